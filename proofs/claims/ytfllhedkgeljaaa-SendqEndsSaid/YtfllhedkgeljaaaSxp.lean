/-
Abstract states told anew: a nil slice as an empty row, a row as plain data, other names, fewer slots. No condition.
-/
import Derived.Test.YtfllhedkgeljaaaSxo
set_option linter.unusedSimpArgs false
set_option linter.unusedVariables false
namespace Go.Proofs.Ytfllhedkgeljaaa
namespace Sx
open Go.RowKit

mutual
def AV.frz (o : Nat) (es : List D) : AV → AV
  | .own o' sz => if o' = o then .d (.sl es) else .own o' sz
  | .sub o' sz lo n => if o' = o then .d (.sl ((es.drop lo).take n)) else .sub o' sz lo n
  | .rptr o' sz i off => if o' = o then .dead else .rptr o' sz i off
  | .agg cs => mkAgg (AV.frzL o es cs)
  | .tup cs => .tup (AV.frzL o es cs)
  | .fn f cs => .fn f (AV.frzL o es cs)
  | .meth f cs => .meth f (AV.frzL o es cs)
  | x => x
def AV.frzL (o : Nat) (es : List D) : List AV → List AV
  | [] => []
  | c :: r => c.frz o es :: AV.frzL o es r
end
def Ob.frz (o : Nat) (es : List D) : Ob → Ob
  | .box cs => .box (AV.frzL o es cs)
  | x => x

/-- Ways to tell a state anew. -/
inductive WH where
  | nilrow (t n sz : Nat)
  | nilcell (o j n sz : Nat)
  | nild (t : Nat)
  | freeze (o : Nat)

def isNilSl : AV → Bool
  | .raw (.slice none 0 0) => true
  | _ => false

def wkE (w : WH) (S : AS) : Option AS :=
  match w with
  | .nilrow t n sz => match S.O n with
    | .none => if isNilSl (S.E t) then some { S with E := upd S.E t (.own n sz), O := upd S.O n (.row sz []) } else none
    | _ => none
  | .nilcell o j n sz => match S.O n, S.O o with
    | .none, .box cs => match cs[j]? with
      | some x => if isNilSl x then some { S with O := upd (upd S.O n (.row sz [])) o (.box (cs.set j (.own n sz))) } else none
      | none => none
    | _, _ => none
  | .nild t => if isNilSl (S.E t) then some { S with E := upd S.E t (.d (.sl [])) } else none
  | .freeze o => match S.O o with
    | .row _ es => some { S with E := fun t => (S.E t).frz o es, O := fun n => if n = o then .gone else (S.O n).frz o es }
    | _ => none

def wkL : List WH → AS → Option AS
  | [], S => some S
  | w :: r, S => match wkE w S with | some S1 => wkL r S1 | none => none

section
variable {P : Program} {k : Nat} {O : Nat → Ob} {β : Nat → HE} {X : Nat → Prop} {w : World}

theorem frzL_get {o : Nat} {es : List D} {cs : List AV} {j : Nat} : (AV.frzL o es cs)[j]? = (cs[j]?).map (AV.frz o es) := by
  induction cs generalizing j with
  | nil => rfl
  | cons c r ih =>
    cases j with
    | zero => rfl
    | succ j => simp only [AV.frzL, List.getElem?_cons_succ]; exact ih
theorem frzL_len {o : Nat} {es : List D} {cs : List AV} : (AV.frzL o es cs).length = cs.length := by
  induction cs with
  | nil => rfl
  | cons c r ih => simp [AV.frzL, ih]

theorem isNilSl_eq {x : AV} (h : isNilSl x = true) : x = .raw (.slice none 0 0) := by
  unfold isNilSl at h
  split at h
  · rfl
  · cases h

theorem frz_rav {o sz : Nat} {es : List D} (hO : Objs O β X w) (ho : O o = .row sz es) {x : AV} {v : Value} (hx : AR O β X w x v) {O' : Nat → Ob} (hO' : ∀ n, O n ≠ .none → O' n ≠ .none) :
    RAV w (Mset X (upd β o .gone)) (upd β o .gone) (fun n => O' n ≠ .none) (x.frz o es) v := by
  have hMsub : ∀ b, Mset X (upd β o .gone) b → Mset X β b := by
    rintro b (hx | ⟨n, hn⟩)
    · exact .inl hx
    · by_cases h : n = o
      · subst h; rw [upd_same] at hn; cases hn
      · rw [upd_other _ _ h] at hn; exact .inr ⟨n, hn⟩
  have hblk : ∀ b, (β o).blk = some b → ¬ Mset X (upd β o .gone) b := by
    rintro b hb (hx | ⟨n, hn⟩)
    · exact hO.priv o b hb hx
    · by_cases h : n = o
      · subst h; rw [upd_same] at hn; cases hn
      · rw [upd_other _ _ h] at hn; exact h (hO.inj n o b hn hb)
  have hmono : ∀ {x v}, AR O β X w x v → RAV w (Mset X (upd β o .gone)) (upd β o .gone) (fun n => O' n ≠ .none) x v := fun h =>
    h.mono (T := fun _ => False) (Evo.refl _ _) (fun _ h => h.elim) (fun b hb => .inl (hMsub b hb)) (fun n hn => ⟨hO' n hn, by
      by_cases h : n = o
      · subst h; exact .inr (upd_same _ _ _)
      · exact .inl (upd_other _ _ h)⟩)
  have hrow : ∀ {y : AV} {l : List D} {u : Value}, AR O β X w y u → rowOf y O = some l → (∀ ad, (∃ c, u = .slice (some ad) l.length c) → l ≠ [] → (β o).blk = some ad.block) →
      RAV w (Mset X (upd β o .gone)) (upd β o .gone) (fun n => O' n ≠ .none) (.d (.sl l)) u := fun hy hr hb => by
    obtain ⟨a, c, sz2, rfl, hE, hnc, -⟩ := rowOf_ok hO (fun n => .inl rfl) hy hr
    refine .d _ _ (row_data hE hnc hMsub fun ad had hne => hblk _ ?_)
    subst had
    exact hb ad ⟨c, rfl⟩ hne
  induction hx with
  | d d v hd => exact hmono (.d d v hd)
  | raw v => exact .raw v
  | ptr o' off v hC hone hv => exact hmono (.ptr o' off v hC hone hv)
  | rptr o' sz' i off v hC hone hv =>
    simp only [AV.frz]
    split
    · exact .dead v
    · exact hmono (.rptr o' sz' i off v hC hone hv)
  | eptr e off p f hb hM ho hc hr => exact hmono (.eptr e off p f hb hM ho hc hr)
  | own o' sz' v hC hone hv =>
    simp only [AV.frz]
    split
    · next h =>
      subst h
      have hy : AR O β X w (.own o' sz') v := .own o' sz' v hC hone hv
      refine hrow hy (by simp only [rowOf, ho]) fun ad ⟨c, hc⟩ hne => ?_
      rcases hO.row ho with ⟨hes, -⟩ | ⟨b, cur, t, lo, hi, hβ, -⟩
      · exact absurd hes hne
      · obtain ⟨-, a, c', heq, hnc, hbk⟩ := hv _ _ _ hβ
        rw [heq] at hc
        cases hc
        obtain ⟨b', cnt, hg, had, -⟩ := hbk (by have := List.length_pos_iff.2 hne; omega)
        cases hg
        cases had
        rw [hβ]; rfl
    · exact hmono (.own o' sz' v hC hone hv)
  | sub o' sz' lo n v hC hone hv =>
    simp only [AV.frz]
    split
    · next h =>
      subst h
      have hy : AR O β X w (.sub o' sz' lo n) v := .sub o' sz' lo n v hC hone hv
      refine hrow hy (by simp only [rowOf, ho]) fun ad ⟨c, hc⟩ hne => ?_
      rcases hO.row ho with ⟨hes, -⟩ | ⟨b, cur, t, lo2, hi, hβ, -⟩
      · subst hes; simp at hne
      · obtain ⟨-, hle, a, c', heq, hnc, hbk⟩ := hv _ _ _ hβ
        rw [heq] at hc
        have hn0 : 0 < n := by
          have := List.length_pos_iff.2 hne
          simp at this; omega
        obtain ⟨b', cnt, hg, had, -⟩ := hbk (by omega)
        cases hg
        subst had
        injection hc with h1 h2 h3
        injection h1 with h1
        rw [← h1, hβ]; rfl
    · exact hmono (.sub o' sz' lo n v hC hone hv)
  | agg cs vs hl hr ih =>
    simp only [AV.frz]
    refine mkAgg_ok (by rw [frzL_len]; exact hl) fun j y hj => ?_
    rw [frzL_get] at hj
    cases hx : cs[j]? with
    | none => rw [hx] at hj; cases hj
    | some z => rw [hx] at hj; cases hj; exact ih j z hx
  | tup cs vs hl hr ih =>
    simp only [AV.frz]
    refine .tup _ _ (by rw [frzL_len]; exact hl) fun j y hj => ?_
    rw [frzL_get] at hj
    cases hx : cs[j]? with
    | none => rw [hx] at hj; cases hj
    | some z => rw [hx] at hj; cases hj; exact ih j z hx
  | fn f cs vs hl hr ih =>
    simp only [AV.frz]
    refine .fn f _ _ (by rw [frzL_len]; exact hl) fun j y hj => ?_
    rw [frzL_get] at hj
    cases hx : cs[j]? with
    | none => rw [hx] at hj; cases hj
    | some z => rw [hx] at hj; cases hj; exact ih j z hx
  | meth f cs vs hl hr ih =>
    simp only [AV.frz]
    refine .meth f _ _ (by rw [frzL_len]; exact hl) fun j y hj => ?_
    rw [frzL_get] at hj
    cases hx : cs[j]? with
    | none => rw [hx] at hj; cases hj
    | some z => rw [hx] at hj; cases hj; exact ih j z hx
  | dead v => exact .dead v

theorem wkE_ok {S S' : AS} {h : WH} (hw : wkE h S = some S') : Ent k S S' := by
  intro β X a w hR
  have hO := hR.objs
  cases h with
  | nilrow t n sz =>
    simp only [wkE] at hw
    split at hw
    · next hn =>
      split at hw
      · next hnil =>
        cases hw
        obtain ⟨h1, h2⟩ := hO.create (ob := .row sz []) (he := .row sz 0 none) hn (Evo.refl _ _) (fun b hb => by cases hb) (by simp) (fun _ => .rowN _)
        refine ⟨_, ⟨hR.size, hR.defers, fun t' => ?_, h1⟩, h2.toK k⟩
        by_cases ht : t' = t
        · subst ht
          have hv := hR.slots t'
          rw [isNilSl_eq hnil] at hv
          have hv2 := hv.raw_inv
          simp only [upd_same]
          rw [hv2]
          refine .own _ _ _ (by simp [upd_same]) rfl fun sz2 len g hb => ?_
          rw [upd_same] at hb
          cases hb
          exact ⟨rfl, none, 0, rfl, Nat.le_refl _, fun h => absurd h (by omega)⟩
        · simp only [upd_other _ _ ht]
          exact h2.rav (hR.slots t')
      · cases hw
    · cases hw
  | nilcell o j n sz =>
    simp only [wkE] at hw
    split at hw
    · next cs hn hob =>
      split at hw
      · next x hx =>
        split at hw
        · next hnil =>
          cases hw
          obtain ⟨h1, h2⟩ := hO.create (ob := .row sz []) (he := .row sz 0 none) hn (Evo.refl _ _) (fun b hb => by cases hb) (by simp) (fun _ => .rowN _)
          have hon : o ≠ n := by rintro rfl; rw [hob] at hn; cases hn
          have hob' : upd S.O n (.row sz []) o = .box cs := by rw [upd_other _ _ hon]; exact hob
          obtain ⟨b, cur, t, lo, hi, hβ, hb, hf, hl, hr⟩ := h1.boxS hob'
          obtain ⟨h3, h4⟩ := h1.write (n := o) (b := b) (ob := .box (cs.set j (.own n sz))) (by rw [hob']; simp) (by rw [hβ]; rfl) (Evo.refl _ _) (by simp) fun hs => by
            rw [hβ]
            refine .box _ b cur t lo hi hb hf (by simpa using hl) fun i y hy => ?_
            by_cases hij : j = i
            · subst hij
              have hjl := (List.getElem?_eq_some_iff.1 hx).1
              rw [List.getElem?_set_self hjl] at hy
              cases hy
              have hv := hr j x hx
              rw [isNilSl_eq hnil] at hv
              rw [hv.raw_inv]
              refine .own _ _ _ (by rw [upd_other _ _ (Ne.symm hon), upd_same]; simp) rfl fun sz2 len g hb => ?_
              rw [upd_same] at hb
              cases hb
              exact ⟨rfl, none, 0, rfl, Nat.le_refl _, fun h => absurd h (by omega)⟩
            · rw [List.getElem?_set_ne hij] at hy
              exact hs.rav (hr i y hy)
          exact ⟨_, ⟨hR.size, hR.defers, fun t' => (h2.trans h4).rav (hR.slots t'), h3⟩, (h2.trans h4).toK k⟩
        · cases hw
      · cases hw
    · cases hw
  | nild t =>
    simp only [wkE] at hw
    split at hw
    · next hnil =>
      cases hw
      refine ⟨β, ⟨hR.size, hR.defers, fun t' => ?_, hO⟩, StepK.refl _ _ _ _⟩
      by_cases ht : t' = t
      · subst ht
        have hv := hR.slots t'
        rw [isNilSl_eq hnil] at hv
        simp only [upd_same]
        rw [hv.raw_inv]
        exact .d _ _ (.nil _ _)
      · simp only [upd_other _ _ ht]
        exact hR.slots t'
    · cases hw
  | freeze o =>
    simp only [wkE] at hw
    split at hw
    · next sz es ho =>
      cases hw
      have hne : ∀ n, S.O n ≠ .none → (if n = o then Ob.gone else (S.O n).frz o es) ≠ .none := fun n hn => by
        split
        · simp
        · cases hq : S.O n with
          | none => exact absurd hq hn
          | gone => simp [Ob.frz]
          | box cs => simp [Ob.frz]
          | row sz es => simp [Ob.frz]
      have hblk : ∀ n b, (upd β o HE.gone n).blk = some b → (β n).blk = some b ∧ n ≠ o := fun n b hb => by
        by_cases h : n = o
        · subst h; rw [upd_same] at hb; cases hb
        · rw [upd_other _ _ h] at hb; exact ⟨hb, h⟩
      refine ⟨upd β o .gone, ⟨hR.size, hR.defers, fun t' => frz_rav hO ho (hR.slots t') hne, ⟨fun n => ?_, fun n m b h1 h2 => hO.inj n m b (hblk n b h1).1 (hblk m b h2).1, fun n b h1 => hO.priv n b (hblk n b h1).1, hO.xlt⟩⟩, ?_⟩
      · by_cases h : n = o
        · subst h
          simp only [if_true]
          rw [upd_same]
          exact .gone
        · simp only [h, if_false]
          rw [upd_other _ _ h]
          have hrel := hO.rel n
          have hMsub : ∀ b, Mset X (upd β o .gone) b → Mset X β b ∨ w.heap.size ≤ b := by
            rintro b (hx | ⟨m, hm⟩)
            · exact .inl (.inl hx)
            · exact .inl (.inr ⟨m, (hblk m b hm).1⟩)
          cases hq : S.O n with
          | none => rw [hq] at hrel; simp only [Ob.frz]; generalize β n = g at hrel; cases hrel; exact .none
          | gone => rw [hq] at hrel; simp only [Ob.frz]; generalize β n = g at hrel; cases hrel; exact .gone
          | box cs =>
            obtain ⟨b, cur, t, lo, hi, hβ, hb, hf, hl, hr⟩ := hO.boxS hq
            rw [hβ]
            simp only [Ob.frz]
            refine .box _ b cur t lo hi hb hf (by rw [frzL_len]; exact hl) fun j x hj => ?_
            rw [frzL_get] at hj
            cases hx : cs[j]? with
            | none => rw [hx] at hj; cases hj
            | some z => rw [hx] at hj; cases hj; exact frz_rav hO ho (hr j z hx) hne
          | row sz2 es2 =>
            rw [hq] at hrel
            simp only [Ob.frz]
            generalize β n = g at hrel
            cases hrel with
            | rowN => exact .rowN _
            | row sz es b cur t lo hi hb hf hsz hl hr => exact .row _ _ b cur t lo hi hb hf hsz hl fun i j e d h1 h2 => (hr i j e d h1 h2).mono (T := fun _ => False) (Evo.refl _ _) (fun _ h => h.elim) hMsub
      · refine ⟨Evo.refl _ _, fun n _ hn => ⟨hne n hn, ?_⟩, fun b ⟨n, hn⟩ => .inl ⟨n, (hblk n b hn).1⟩⟩
        by_cases h : n = o
        · subst h; exact .inr (upd_same _ _ _)
        · exact .inl (upd_other _ _ h)
    · cases hw

theorem wkL_ok : ∀ (l : List WH) {S S' : AS}, wkL l S = some S' → Ent k S S'
  | [], _, _, h => by cases h; exact Ent.refl _
  | x :: r, S, S', h => by
    unfold wkL at h
    split at h
    · next S1 h1 => exact (wkE_ok h1).trans (wkL_ok r h)
    · cases h
end

/-! ### Other names, fewer slots -/

/-- A state given by lists: slots, objects. -/
structure St where
  E : List (Nat × AV)
  O : List (Nat × Ob)

def lookE (l : List (Nat × AV)) (t : Nat) : AV := match l with | [] => .dead | (u, v) :: r => if u = t then v else lookE r t
def lookO (l : List (Nat × Ob)) (n : Nat) : Ob := match l with | [] => .none | (u, v) :: r => if u = n then v else lookO r n
def St.as (s : St) (nt : Nat) : AS := { E := lookE s.E, O := lookO s.O, nt := nt }

def renOf (ρ : List (Nat × Nat)) (n : Nat) : Nat := match ρ with | [] => n | (u, v) :: r => if u = n then v else renOf r n

/-- What must hold for `S` to be described by `s`, whose names are other ones. -/
def entE (ρ : Nat → Nat) (S : AS) : List (Nat × AV) → List Prop
  | [] => []
  | (t, x) :: r => (S.E t = x.ren ρ) :: entE ρ S r
def entO (ρ : Nat → Nat) (S : AS) : List (Nat × Ob) → List Prop
  | [] => []
  | (n, x) :: r => (S.O (ρ n) = x.ren ρ) :: entO ρ S r
def obNamesIn (keys : List Nat) (l : List (Nat × Ob)) : Bool := l.all fun p => p.2.names.all keys.contains
def avNamesIn (keys : List Nat) (l : List (Nat × AV)) : Bool := l.all fun p => p.2.names.all keys.contains
def notNone : Ob → Bool
  | .none => false
  | _ => true

def entail (k : Nat) (ws : List WH) (ρ : List (Nat × Nat)) (S : AS) (s : St) : Option (List Prop) :=
  match wkL ws S with
  | some S1 =>
    let keys := s.O.map (·.1)
    if keys.Nodup ∧ (keys.map (renOf ρ)).Nodup ∧ avNamesIn keys s.E = true ∧ obNamesIn keys s.O = true ∧ s.O.all (fun p => notNone p.2) = true ∧ (List.range k).all (fun n => keys.contains n && renOf ρ n == n) = true then
      some (entE (renOf ρ) S1 s.E ++ entO (renOf ρ) S1 s.O)
    else none
  | none => none

mutual
theorem AV.ren_inv {ρ σ : Nat → Nat} : ∀ x : AV, (∀ n ∈ x.names, σ (ρ n) = n) → (x.ren ρ).ren σ = x
  | .d _, _ => rfl
  | .raw _, _ => rfl
  | .ptr o off, h => by simp only [AV.ren]; rw [h o (by simp [AV.names])]
  | .rptr o sz i off, h => by simp only [AV.ren]; rw [h o (by simp [AV.names])]
  | .eptr _ _, _ => rfl
  | .own o sz, h => by simp only [AV.ren]; rw [h o (by simp [AV.names])]
  | .sub o sz lo n, h => by simp only [AV.ren]; rw [h o (by simp [AV.names])]
  | .agg cs, h => by simp only [AV.ren]; rw [AV.renL_inv cs (by simpa [AV.names] using h)]
  | .tup cs, h => by simp only [AV.ren]; rw [AV.renL_inv cs (by simpa [AV.names] using h)]
  | .fn f cs, h => by simp only [AV.ren]; rw [AV.renL_inv cs (by simpa [AV.names] using h)]
  | .meth f cs, h => by simp only [AV.ren]; rw [AV.renL_inv cs (by simpa [AV.names] using h)]
  | .dead, _ => rfl
theorem AV.renL_inv {ρ σ : Nat → Nat} : ∀ l : List AV, (∀ n ∈ AV.namesL l, σ (ρ n) = n) → AV.renL σ (AV.renL ρ l) = l
  | [], _ => rfl
  | c :: r, h => by
    simp only [AV.renL]
    rw [AV.ren_inv c (fun n hn => h n (by simp [AV.namesL, hn])), AV.renL_inv r (fun n hn => h n (by simp [AV.namesL, hn]))]
end
mutual
theorem AV.ren_names {ρ : Nat → Nat} : ∀ x : AV, (x.ren ρ).names = x.names.map ρ
  | .d _ => rfl
  | .raw _ => rfl
  | .ptr _ _ => rfl
  | .rptr _ _ _ _ => rfl
  | .eptr _ _ => rfl
  | .own _ _ => rfl
  | .sub _ _ _ _ => rfl
  | .agg cs => by simp only [AV.ren, AV.names]; exact AV.renL_names cs
  | .tup cs => by simp only [AV.ren, AV.names]; exact AV.renL_names cs
  | .fn f cs => by simp only [AV.ren, AV.names]; exact AV.renL_names cs
  | .meth f cs => by simp only [AV.ren, AV.names]; exact AV.renL_names cs
  | .dead => rfl
theorem AV.renL_names {ρ : Nat → Nat} : ∀ l : List AV, AV.namesL (AV.renL ρ l) = (AV.namesL l).map ρ
  | [] => rfl
  | c :: r => by simp only [AV.renL, AV.namesL, List.map_append, AV.ren_names c, AV.renL_names r]
end
theorem Ob.ren_inv {ρ σ : Nat → Nat} (x : Ob) (h : ∀ n ∈ x.names, σ (ρ n) = n) : (x.ren ρ).ren σ = x := by
  cases x with
  | box cs => simp only [Ob.ren]; rw [AV.renL_inv cs (by simpa [Ob.names] using h)]
  | _ => rfl
theorem Ob.ren_names {ρ : Nat → Nat} (x : Ob) : (x.ren ρ).names = x.names.map ρ := by
  cases x with
  | box cs => simp only [Ob.ren, Ob.names]; exact AV.renL_names cs
  | _ => rfl

theorem lookE_cases (l : List (Nat × AV)) (t : Nat) : lookE l t = .dead ∨ (t, lookE l t) ∈ l := by
  induction l with
  | nil => exact .inl rfl
  | cons p r ih =>
    obtain ⟨u, v⟩ := p
    simp only [lookE]
    split
    · next h => subst h; exact .inr (by simp)
    · rcases ih with h | h
      · exact .inl h
      · exact .inr (by simp [h])
theorem lookO_cases (l : List (Nat × Ob)) (n : Nat) : (lookO l n = .none ∧ n ∉ l.map (·.1)) ∨ (n, lookO l n) ∈ l := by
  induction l with
  | nil => exact .inl ⟨rfl, by simp⟩
  | cons p r ih =>
    obtain ⟨u, v⟩ := p
    simp only [lookO]
    split
    · next h => subst h; exact .inr (by simp)
    · next h =>
      rcases ih with ⟨h1, h2⟩ | h1
      · exact .inl ⟨h1, by simp only [List.map_cons, List.mem_cons, not_or]; exact ⟨fun e => h e.symm, h2⟩⟩
      · exact .inr (by simp [h1])
theorem entE_mem {ρ : Nat → Nat} {S : AS} {l : List (Nat × AV)} (h : ∀ p ∈ entE ρ S l, p) {t : Nat} {x : AV} (hm : (t, x) ∈ l) : S.E t = x.ren ρ := by
  induction l with
  | nil => cases hm
  | cons p r ih =>
    obtain ⟨u, v⟩ := p
    rcases List.mem_cons.1 hm with h1 | h1
    · cases h1; exact h _ (by simp [entE])
    · exact ih (fun q hq => h q (by simp [entE, hq])) h1
theorem entO_mem {ρ : Nat → Nat} {S : AS} {l : List (Nat × Ob)} (h : ∀ p ∈ entO ρ S l, p) {n : Nat} {x : Ob} (hm : (n, x) ∈ l) : S.O (ρ n) = x.ren ρ := by
  induction l with
  | nil => cases hm
  | cons p r ih =>
    obtain ⟨u, v⟩ := p
    rcases List.mem_cons.1 hm with h1 | h1
    · cases h1; exact h _ (by simp [entO])
    · exact ih (fun q hq => h q (by simp [entO, hq])) h1

theorem nodup_map_inj {l : List Nat} {f : Nat → Nat} (h : (l.map f).Nodup) {a b : Nat} (ha : a ∈ l) (hb : b ∈ l) (he : f a = f b) : a = b := by
  induction l with
  | nil => cases ha
  | cons x r ih =>
    rw [List.map_cons, List.nodup_cons] at h
    rcases List.mem_cons.1 ha with h1 | h1
    · rcases List.mem_cons.1 hb with h2 | h2
      · rw [h1, h2]
      · subst h1; exact absurd (he ▸ List.mem_map_of_mem h2) h.1
    · rcases List.mem_cons.1 hb with h2 | h2
      · subst h2; exact absurd (he ▸ List.mem_map_of_mem h1) h.1
      · exact ih h.2 h1 h2

theorem entail_ok {k : Nat} {ws : List WH} {ρ : List (Nat × Nat)} {S : AS} {s : St} {obs : List Prop} (h : entail k ws ρ S s = some obs) (hob : ∀ p ∈ obs, p) : Ent k S (s.as S.nt) := by
  unfold entail at h
  split at h
  · next S1 hS1 =>
    dsimp only at h
    split at h
    · next hc =>
      obtain ⟨hnd, hnd2, hav, hon, hnn, hk⟩ := hc
      cases h
      refine (wkL_ok ws hS1).trans ?_
      have hnt : S1.nt = S.nt := by
        have : ∀ (l : List WH) (S S' : AS), wkL l S = some S' → S'.nt = S.nt := by
          intro l
          induction l with
          | nil => intro S S' h; cases h; rfl
          | cons x r ih =>
            intro S S' h
            unfold wkL at h
            split at h
            · next S2 h2 =>
              rw [ih _ _ h]
              cases x <;> simp only [wkE] at h2 <;> (repeat' split at h2) <;> first | (cases h2; done) | (cases h2; rfl)
            · cases h
        exact this _ _ _ hS1
      have hE := fun p hp => hob p (List.mem_append_left _ hp)
      have hOb := fun p hp => hob p (List.mem_append_right _ hp)
      intro β X a w hR
      -- the way back from the old names
      let keys := s.O.map (·.1)
      let ρf := renOf ρ
      let σ : Nat → Nat := fun m => match keys.find? (fun n => ρf n == m) with | some n => n | none => 0
      have hσ : ∀ n ∈ keys, σ (ρf n) = n := fun n hn => by
        show (match keys.find? (fun n' => ρf n' == ρf n) with | some n => n | none => 0) = n
        cases hq : keys.find? (fun n' => ρf n' == ρf n) with
        | none => exact absurd (List.find?_eq_none.1 hq n hn) (by simp)
        | some m =>
          have h1 := List.find?_some hq
          have h2 := List.mem_of_find?_eq_some hq
          exact nodup_map_inj hnd2 h2 hn (by simpa using h1)
      let β2 : Nat → HE := fun n => if keys.contains n then β (ρf n) else .gone
      have hβ2 : ∀ n ∈ keys, β2 n = β (ρf n) := fun n hn => by show (if keys.contains n then β (ρf n) else HE.gone) = _; rw [if_pos (by simpa using hn)]
      have hβ20 : ∀ n, n ∉ keys → β2 n = .gone := fun n hn => by show (if keys.contains n then β (ρf n) else HE.gone) = _; rw [if_neg (by simpa using hn)]
      have hblk : ∀ n b, (β2 n).blk = some b → n ∈ keys ∧ (β (ρf n)).blk = some b := fun n b hb => by
        by_cases h : n ∈ keys
        · exact ⟨h, by rw [← hβ2 n h]; exact hb⟩
        · rw [hβ20 n h] at hb; cases hb
      have hMsub : ∀ b, Mset X β2 b → Mset X β b := by
        rintro b (hx | ⟨n, hn⟩)
        · exact .inl hx
        · exact .inr ⟨_, (hblk n b hn).2⟩
      have hlive : ∀ n ∈ keys, lookO s.O n ≠ .none := fun n hn => by
        rcases lookO_cases s.O n with ⟨-, h2⟩ | h2
        · exact absurd hn h2
        · have := List.all_eq_true.1 hnn _ h2
          intro he
          rw [he] at this
          cases this
      have hback : ∀ m, (∃ n ∈ keys, ρf n = m) → S1.O m ≠ .none → lookO s.O (σ m) ≠ .none ∧ (β2 (σ m) = β m ∨ β2 (σ m) = .gone) := by
        rintro m ⟨n, hn, rfl⟩ -
        rw [hσ n hn]
        exact ⟨hlive n hn, .inl (hβ2 n hn)⟩
      refine ⟨β2, ⟨hnt ▸ hR.size, hR.defers, fun t => ?_, ⟨fun n => ?_, fun n m b h1 h2 => ?_, fun n b h1 => hR.objs.priv _ b (hblk n b h1).2, hR.objs.xlt⟩⟩, ⟨Evo.refl _ _, fun o ho hno => ?_, fun b ⟨n, hn⟩ => .inl ⟨_, (hblk n b hn).2⟩⟩⟩
      · rcases lookE_cases s.E t with h1 | h1
        · show RAV w _ _ _ (lookE s.E t) _
          rw [h1]; exact .dead _
        · have h2 := entE_mem hE h1
          have h3 := hR.slots t
          rw [h2] at h3
          have hnames : ∀ n ∈ (lookE s.E t).names, n ∈ keys := fun n hn => by
            exact List.contains_iff_mem.1 (List.all_eq_true.1 (List.all_eq_true.1 hav _ h1) n hn)
          have h4 := h3.ren (ρ := σ) (M' := Mset X β2) (β' := β2) (C' := fun n => lookO s.O n ≠ .none) hMsub fun m hm hcm => by
            rw [AV.ren_names] at hm
            obtain ⟨n, hn, rfl⟩ := List.mem_map.1 hm
            exact hback _ ⟨n, hnames n hn, rfl⟩ hcm
          rw [AV.ren_inv _ (fun n hn => hσ n (hnames n hn))] at h4
          exact h4
      · rcases lookO_cases s.O n with ⟨h1, h2⟩ | h1
        · show ObjRel w _ _ _ (lookO s.O n) _
          rw [h1, hβ20 n h2]
          exact .none
        · have hn : n ∈ keys := List.mem_map_of_mem (f := (·.1)) h1
          have h2 := entO_mem hOb h1
          have h3 := hR.objs.rel (ρf n)
          rw [h2] at h3
          show ObjRel w _ _ _ (lookO s.O n) _
          rw [hβ2 n hn]
          have hnames : ∀ m ∈ (lookO s.O n).names, m ∈ keys := fun m hm => by
            exact List.contains_iff_mem.1 (List.all_eq_true.1 (List.all_eq_true.1 hon _ h1) m hm)
          have h4 := h3.ren (ρ := σ) (M' := Mset X β2) (β' := β2) (C' := fun n => lookO s.O n ≠ .none) hMsub fun m hm hcm => by
            rw [Ob.ren_names] at hm
            obtain ⟨q, hq, rfl⟩ := List.mem_map.1 hm
            exact hback _ ⟨q, hnames q hq, rfl⟩ hcm
          rw [Ob.ren_inv _ (fun m hm => hσ m (hnames m hm))] at h4
          exact h4
      · obtain ⟨k1, k2⟩ := hblk n b h1
        obtain ⟨k3, k4⟩ := hblk m b h2
        exact nodup_map_inj hnd2 k1 k3 (hR.objs.inj _ _ b k2 k4)
      · have := List.all_eq_true.1 hk o (List.mem_range.2 ho)
        simp only [Bool.and_eq_true, beq_iff_eq] at this
        have hok : o ∈ keys := List.contains_iff_mem.1 this.1
        exact ⟨hlive o hok, .inl (by rw [hβ2 o hok]; show β (renOf ρ o) = β o; rw [this.2])⟩
    · cases h
  · cases h
end Sx
end Go.Proofs.Ytfllhedkgeljaaa
