/-
Part 3 of 9 of the proof of pipeEnds: the lemmas that it needs, of the texts Sxp, Sxq, Sxr, Sxs, Sxt, C04S0, C04S1, C08S0, C08S1, C10S0, C10S1, Sxu, C12S0, C12S1, C12S2, C12S3, C12S4, C12S5, C12S6. No condition but those that each lemma names.
-/
import Derived.Test.YtalpfhpeaaocmaaGreatE2
import Derived.ProofKit
import Derived.OpenShut
import Derived.Laws.Bits
import Derived.Laws.Bits64
import Derived.Test.YtalpfhpeaaocmaaGreatProg
import Derived.KernelRfl
import Derived.Test.YtalpfhpeaaocmaaGreatE1

set_option linter.unusedSimpArgs false
set_option linter.unusedVariables false
set_option maxRecDepth 100000
set_option maxHeartbeats 1000000
section
namespace Go.Proofs.YtalpfhpeaaocmaaGreat
namespace Sx
open Go.RowKit
mutual
def AV.frz (o : Nat) (es : List D) : AV → AV
 | .own o' sz => if o' = o then .d (.sl es) else .own o' sz
 | .sub o' sz lo n => if o' = o then .d (.sl ((es.drop lo).take n)) else .sub o' sz lo n
 | .rptr o' sz i off => if o' = o then .dead else .rptr o' sz i off
 | .agg cs => mkAgg (AV.frzL o es cs)
 | .tup cs => .tup (AV.frzL o es cs)
 | .fn f cs => .fn f (AV.frzL o es cs)
 | .meth f cs => .meth f (AV.frzL o es cs)
 | x => x
def AV.frzL (o : Nat) (es : List D) : List AV → List AV
 | [] => []
 | c :: r => c.frz o es :: AV.frzL o es r
end
def Ob.frz (o : Nat) (es : List D) : Ob → Ob
 | .box cs => .box (AV.frzL o es cs)
 | x => x
/-- Ways to tell a state anew. -/
inductive WH where
 | nilrow (t n sz : Nat)
 | nilcell (o j n sz : Nat)
 | nild (t : Nat)
 | freeze (o : Nat)
def isNilSl : AV → Bool
 | .raw (.slice none 0 0) => true
 | _ => false
def wkE (w : WH) (S : AS) : Option AS :=
 match w with
 | .nilrow t n sz => match S.O n with
  | .none => if isNilSl (S.E t) then some { S with E := upd S.E t (.own n sz), O := upd S.O n (.row sz []) } else none
  | _ => none
 | .nilcell o j n sz => match S.O n, S.O o with
  | .none, .box cs => match cs[j]? with
   | some x => if isNilSl x then some { S with O := upd (upd S.O n (.row sz [])) o (.box (cs.set j (.own n sz))) } else none
   | none => none
  | _, _ => none
 | .nild t => if isNilSl (S.E t) then some { S with E := upd S.E t (.d (.sl [])) } else none
 | .freeze o => match S.O o with
  | .row _ es => some { S with E := fun t => (S.E t).frz o es, O := fun n => if n = o then .gone else (S.O n).frz o es }
  | _ => none
def wkL : List WH → AS → Option AS
 | [], S => some S
 | w :: r, S => match wkE w S with | some S1 => wkL r S1 | none => none
section
variable {P : Program} {k : Nat} {O : Nat → Ob} {β : Nat → HE} {X : Nat → Prop} {w : World}
theorem frzL_get {o : Nat} {es : List D} {cs : List AV} {j : Nat} : (AV.frzL o es cs)[j]? = (cs[j]?).map (AV.frz o es) := by
 induction cs generalizing j with
 | nil => rfl
 | cons c r ih =>
  cases j with
  | zero => rfl
  | succ j => simp only [AV.frzL, List.getElem?_cons_succ]; exact ih
theorem frzL_len {o : Nat} {es : List D} {cs : List AV} : (AV.frzL o es cs).length = cs.length := by
 induction cs with
 | nil => rfl
 | cons c r ih => simp [AV.frzL, ih]
theorem isNilSl_eq {x : AV} (h : isNilSl x = true) : x = .raw (.slice none 0 0) := by
 unfold isNilSl at h
 split at h
 ·rfl
 ·cases h
theorem frz_rav {o sz : Nat} {es : List D} (hO : Objs O β X w) (ho : O o = .row sz es) {x : AV} {v : Value} (hx : AR O β X w x v) {O' : Nat → Ob} (hO' : ∀ n, O n ≠ .none → O' n ≠ .none) :
  RAV w (Mset X (upd β o .gone)) (upd β o .gone) (fun n => O' n ≠ .none) (x.frz o es) v := by
 have hMsub : ∀ b, Mset X (upd β o .gone) b → Mset X β b := by
  rintro b (hx | ⟨n, hn⟩)
  ·exact .inl hx
  ·by_cases h : n = o
   ·subst h; rw [upd_same] at hn; cases hn
   ·rw [upd_other _ _ h] at hn; exact .inr ⟨n, hn⟩
 have hblk : ∀ b, (β o).blk = some b → ¬ Mset X (upd β o .gone) b := by
  rintro b hb (hx | ⟨n, hn⟩)
  ·exact hO.priv o b hb hx
  ·by_cases h : n = o
   ·subst h; rw [upd_same] at hn; cases hn
   ·rw [upd_other _ _ h] at hn; exact h (hO.inj n o b hn hb)
 have hmono : ∀ {x v}, AR O β X w x v → RAV w (Mset X (upd β o .gone)) (upd β o .gone) (fun n => O' n ≠ .none) x v := fun h =>
  h.mono (T := fun _ => False) (Evo.refl _ _) (fun _ h => h.elim) (fun b hb => .inl (hMsub b hb)) (fun n hn => ⟨hO' n hn, by
   by_cases h : n = o
   ·subst h; exact .inr (upd_same _ _ _)
   ·exact .inl (upd_other _ _ h)⟩)
 have hrow : ∀ {y : AV} {l : List D} {u : Value}, AR O β X w y u → rowOf y O = some l → (∀ ad, (∃ c, u = .slice (some ad) l.length c) → l ≠ [] → (β o).blk = some ad.block) →
   RAV w (Mset X (upd β o .gone)) (upd β o .gone) (fun n => O' n ≠ .none) (.d (.sl l)) u := fun hy hr hb => by
  obtain ⟨a, c, sz2, rfl, hE, hnc, -⟩ := rowOf_ok hO (fun n => .inl rfl) hy hr
  refine .d _ _ (row_data hE hnc hMsub fun ad had hne => hblk _ ?_)
  subst had
  exact hb ad ⟨c, rfl⟩ hne
 induction hx with
 | d d v hd => exact hmono (.d d v hd)
 | raw v => exact .raw v
 | ptr o' off v hC hone hv => exact hmono (.ptr o' off v hC hone hv)
 | rptr o' sz' i off v hC hone hv =>
  simp only [AV.frz]
  split
  ·exact .dead v
  ·exact hmono (.rptr o' sz' i off v hC hone hv)
 | eptr e off p f hb hM ho hc hr => exact hmono (.eptr e off p f hb hM ho hc hr)
 | own o' sz' v hC hone hv =>
  simp only [AV.frz]
  split
  ·next h =>
   subst h
   have hy : AR O β X w (.own o' sz') v := .own o' sz' v hC hone hv
   refine hrow hy (by simp only [rowOf, ho]) fun ad ⟨c, hc⟩ hne => ?_
   rcases hO.row ho with ⟨hes, -⟩ | ⟨b, cur, t, lo, hi, hβ, -⟩
   ·exact absurd hes hne
   ·obtain ⟨-, a, c', heq, hnc, hbk⟩ := hv _ _ _ hβ
    rw [heq] at hc
    cases hc
    obtain ⟨b', cnt, hg, had, -⟩ := hbk (by have := List.length_pos_iff.2 hne; omega)
    cases hg
    cases had
    rw [hβ]; rfl
  ·exact hmono (.own o' sz' v hC hone hv)
 | sub o' sz' lo n v hC hone hv =>
  simp only [AV.frz]
  split
  ·next h =>
   subst h
   have hy : AR O β X w (.sub o' sz' lo n) v := .sub o' sz' lo n v hC hone hv
   refine hrow hy (by simp only [rowOf, ho]) fun ad ⟨c, hc⟩ hne => ?_
   rcases hO.row ho with ⟨hes, -⟩ | ⟨b, cur, t, lo2, hi, hβ, -⟩
   ·subst hes; simp at hne
   ·obtain ⟨-, hle, a, c', heq, hnc, hbk⟩ := hv _ _ _ hβ
    rw [heq] at hc
    have hn0 : 0 < n := by
     have := List.length_pos_iff.2 hne
     simp at this; omega
    obtain ⟨b', cnt, hg, had, -⟩ := hbk (by omega)
    cases hg
    subst had
    injection hc with h1 h2 h3
    injection h1 with h1
    rw [← h1, hβ]; rfl
  ·exact hmono (.sub o' sz' lo n v hC hone hv)
 | agg cs vs hl hr ih =>
  simp only [AV.frz]
  refine mkAgg_ok (by rw [frzL_len]; exact hl) fun j y hj => ?_
  rw [frzL_get] at hj
  cases hx : cs[j]? with
  | none => rw [hx] at hj; cases hj
  | some z => rw [hx] at hj; cases hj; exact ih j z hx
 | tup cs vs hl hr ih =>
  simp only [AV.frz]
  refine .tup _ _ (by rw [frzL_len]; exact hl) fun j y hj => ?_
  rw [frzL_get] at hj
  cases hx : cs[j]? with
  | none => rw [hx] at hj; cases hj
  | some z => rw [hx] at hj; cases hj; exact ih j z hx
 | fn f cs vs hl hr ih =>
  simp only [AV.frz]
  refine .fn f _ _ (by rw [frzL_len]; exact hl) fun j y hj => ?_
  rw [frzL_get] at hj
  cases hx : cs[j]? with
  | none => rw [hx] at hj; cases hj
  | some z => rw [hx] at hj; cases hj; exact ih j z hx
 | meth f cs vs hl hr ih =>
  simp only [AV.frz]
  refine .meth f _ _ (by rw [frzL_len]; exact hl) fun j y hj => ?_
  rw [frzL_get] at hj
  cases hx : cs[j]? with
  | none => rw [hx] at hj; cases hj
  | some z => rw [hx] at hj; cases hj; exact ih j z hx
 | dead v => exact .dead v
theorem wkE_ok {S S' : AS} {h : WH} (hw : wkE h S = some S') : Ent k S S' := by
 intro β X a w hR
 have hO := hR.objs
 cases h with
 | nilrow t n sz =>
  simp only [wkE] at hw
  split at hw
  ·next hn =>
   split at hw
   ·next hnil =>
    cases hw
    obtain ⟨h1, h2⟩ := hO.create (ob := .row sz []) (he := .row sz 0 none) hn (Evo.refl _ _) (fun b hb => by cases hb) (by simp) (fun _ => .rowN _)
    refine ⟨_, ⟨hR.size, hR.defers, fun t' => ?_, h1⟩, h2.toK k⟩
    by_cases ht : t' = t
    ·subst ht
     have hv := hR.slots t'
     rw [isNilSl_eq hnil] at hv
     have hv2 := hv.raw_inv
     simp only [upd_same]
     rw [hv2]
     refine .own _ _ _ (by simp [upd_same]) rfl fun sz2 len g hb => ?_
     rw [upd_same] at hb
     cases hb
     exact ⟨rfl, none, 0, rfl, Nat.le_refl _, fun h => absurd h (by omega)⟩
    ·simp only [upd_other _ _ ht]
     exact h2.rav (hR.slots t')
   ·cases hw
  ·cases hw
 | nilcell o j n sz =>
  simp only [wkE] at hw
  split at hw
  ·next cs hn hob =>
   split at hw
   ·next x hx =>
    split at hw
    ·next hnil =>
     cases hw
     obtain ⟨h1, h2⟩ := hO.create (ob := .row sz []) (he := .row sz 0 none) hn (Evo.refl _ _) (fun b hb => by cases hb) (by simp) (fun _ => .rowN _)
     have hon : o ≠ n := by rintro rfl; rw [hob] at hn; cases hn
     have hob' : upd S.O n (.row sz []) o = .box cs := by rw [upd_other _ _ hon]; exact hob
     obtain ⟨b, cur, t, lo, hi, hβ, hb, hf, hl, hr⟩ := h1.boxS hob'
     obtain ⟨h3, h4⟩ := h1.write (n := o) (b := b) (ob := .box (cs.set j (.own n sz))) (by rw [hob']; simp) (by rw [hβ]; rfl) (Evo.refl _ _) (by simp) fun hs => by
      rw [hβ]
      refine .box _ b cur t lo hi hb hf (by simpa using hl) fun i y hy => ?_
      by_cases hij : j = i
      ·subst hij
       have hjl := (List.getElem?_eq_some_iff.1 hx).1
       rw [List.getElem?_set_self hjl] at hy
       cases hy
       have hv := hr j x hx
       rw [isNilSl_eq hnil] at hv
       rw [hv.raw_inv]
       refine .own _ _ _ (by rw [upd_other _ _ (Ne.symm hon), upd_same]; simp) rfl fun sz2 len g hb => ?_
       rw [upd_same] at hb
       cases hb
       exact ⟨rfl, none, 0, rfl, Nat.le_refl _, fun h => absurd h (by omega)⟩
      ·rw [List.getElem?_set_ne hij] at hy
       exact hs.rav (hr i y hy)
     exact ⟨_, ⟨hR.size, hR.defers, fun t' => (h2.trans h4).rav (hR.slots t'), h3⟩, (h2.trans h4).toK k⟩
    ·cases hw
   ·cases hw
  ·cases hw
 | nild t =>
  simp only [wkE] at hw
  split at hw
  ·next hnil =>
   cases hw
   refine ⟨β, ⟨hR.size, hR.defers, fun t' => ?_, hO⟩, StepK.refl _ _ _ _⟩
   by_cases ht : t' = t
   ·subst ht
    have hv := hR.slots t'
    rw [isNilSl_eq hnil] at hv
    simp only [upd_same]
    rw [hv.raw_inv]
    exact .d _ _ (.nil _ _)
   ·simp only [upd_other _ _ ht]
    exact hR.slots t'
  ·cases hw
 | freeze o =>
  simp only [wkE] at hw
  split at hw
  ·next sz es ho =>
   cases hw
   have hne : ∀ n, S.O n ≠ .none → (if n = o then Ob.gone else (S.O n).frz o es) ≠ .none := fun n hn => by
    split
    ·simp
    ·cases hq : S.O n with
     | none => exact absurd hq hn
     | gone => simp [Ob.frz]
     | box cs => simp [Ob.frz]
     | row sz es => simp [Ob.frz]
   have hblk : ∀ n b, (upd β o HE.gone n).blk = some b → (β n).blk = some b ∧ n ≠ o := fun n b hb => by
    by_cases h : n = o
    ·subst h; rw [upd_same] at hb; cases hb
    ·rw [upd_other _ _ h] at hb; exact ⟨hb, h⟩
   refine ⟨upd β o .gone, ⟨hR.size, hR.defers, fun t' => frz_rav hO ho (hR.slots t') hne, ⟨fun n => ?_, fun n m b h1 h2 => hO.inj n m b (hblk n b h1).1 (hblk m b h2).1, fun n b h1 => hO.priv n b (hblk n b h1).1, hO.xlt⟩⟩, ?_⟩
   ·by_cases h : n = o
    ·subst h
     simp only [if_true]
     rw [upd_same]
     exact .gone
    ·simp only [h, if_false]
     rw [upd_other _ _ h]
     have hrel := hO.rel n
     have hMsub : ∀ b, Mset X (upd β o .gone) b → Mset X β b ∨ w.heap.size ≤ b := by
      rintro b (hx | ⟨m, hm⟩)
      ·exact .inl (.inl hx)
      ·exact .inl (.inr ⟨m, (hblk m b hm).1⟩)
     cases hq : S.O n with
     | none => rw [hq] at hrel; simp only [Ob.frz]; generalize β n = g at hrel; cases hrel; exact .none
     | gone => rw [hq] at hrel; simp only [Ob.frz]; generalize β n = g at hrel; cases hrel; exact .gone
     | box cs =>
      obtain ⟨b, cur, t, lo, hi, hβ, hb, hf, hl, hr⟩ := hO.boxS hq
      rw [hβ]
      simp only [Ob.frz]
      refine .box _ b cur t lo hi hb hf (by rw [frzL_len]; exact hl) fun j x hj => ?_
      rw [frzL_get] at hj
      cases hx : cs[j]? with
      | none => rw [hx] at hj; cases hj
      | some z => rw [hx] at hj; cases hj; exact frz_rav hO ho (hr j z hx) hne
     | row sz2 es2 =>
      rw [hq] at hrel
      simp only [Ob.frz]
      generalize β n = g at hrel
      cases hrel with
      | rowN => exact .rowN _
      | row sz es b cur t lo hi hb hf hsz hl hr => exact .row _ _ b cur t lo hi hb hf hsz hl fun i j e d h1 h2 => (hr i j e d h1 h2).mono (T := fun _ => False) (Evo.refl _ _) (fun _ h => h.elim) hMsub
   ·refine ⟨Evo.refl _ _, fun n _ hn => ⟨hne n hn, ?_⟩, fun b ⟨n, hn⟩ => .inl ⟨n, (hblk n b hn).1⟩⟩
    by_cases h : n = o
    ·subst h; exact .inr (upd_same _ _ _)
    ·exact .inl (upd_other _ _ h)
  ·cases hw
theorem wkL_ok : ∀ (l : List WH) {S S' : AS}, wkL l S = some S' → Ent k S S'
 | [], _, _, h => by cases h; exact Ent.refl _
 | x :: r, S, S', h => by
  unfold wkL at h
  split at h
  ·next S1 h1 => exact (wkE_ok h1).trans (wkL_ok r h)
  ·cases h
end

/-- A state given by lists: slots, objects. -/
structure St where
 E : List (Nat × AV)
 O : List (Nat × Ob)
def lookE (l : List (Nat × AV)) (t : Nat) : AV := match l with | [] => .dead | (u, v) :: r => if u = t then v else lookE r t
def lookO (l : List (Nat × Ob)) (n : Nat) : Ob := match l with | [] => .none | (u, v) :: r => if u = n then v else lookO r n
def St.as (s : St) (nt : Nat) : AS := { E := lookE s.E, O := lookO s.O, nt := nt }
def renOf (ρ : List (Nat × Nat)) (n : Nat) : Nat := match ρ with | [] => n | (u, v) :: r => if u = n then v else renOf r n
/-- What must hold for `S` to be described by `s`, whose names are other ones. -/
def entE (ρ : Nat → Nat) (S : AS) : List (Nat × AV) → List Prop
 | [] => []
 | (t, x) :: r => (S.E t = x.ren ρ) :: entE ρ S r
def entO (ρ : Nat → Nat) (S : AS) : List (Nat × Ob) → List Prop
 | [] => []
 | (n, x) :: r => (S.O (ρ n) = x.ren ρ) :: entO ρ S r
def obNamesIn (keys : List Nat) (l : List (Nat × Ob)) : Bool := l.all fun p => p.2.names.all keys.contains
def avNamesIn (keys : List Nat) (l : List (Nat × AV)) : Bool := l.all fun p => p.2.names.all keys.contains
def notNone : Ob → Bool
 | .none => false
 | _ => true
def entail (k : Nat) (ws : List WH) (ρ : List (Nat × Nat)) (S : AS) (s : St) : Option (List Prop) :=
 match wkL ws S with
 | some S1 =>
  let keys := s.O.map (·.1)
  if keys.Nodup ∧ (keys.map (renOf ρ)).Nodup ∧ avNamesIn keys s.E = true ∧ obNamesIn keys s.O = true ∧ s.O.all (fun p => notNone p.2) = true ∧ (List.range k).all (fun n => keys.contains n && renOf ρ n == n) = true then
   some (entE (renOf ρ) S1 s.E ++ entO (renOf ρ) S1 s.O)
  else none
 | none => none
mutual
theorem AV.ren_inv {ρ σ : Nat → Nat} : ∀ x : AV, (∀ n ∈ x.names, σ (ρ n) = n) → (x.ren ρ).ren σ = x
 | .d _, _ => rfl
 | .raw _, _ => rfl
 | .ptr o off, h => by simp only [AV.ren]; rw [h o (by simp [AV.names])]
 | .rptr o sz i off, h => by simp only [AV.ren]; rw [h o (by simp [AV.names])]
 | .eptr _ _, _ => rfl
 | .own o sz, h => by simp only [AV.ren]; rw [h o (by simp [AV.names])]
 | .sub o sz lo n, h => by simp only [AV.ren]; rw [h o (by simp [AV.names])]
 | .agg cs, h => by simp only [AV.ren]; rw [AV.renL_inv cs (by simpa [AV.names] using h)]
 | .tup cs, h => by simp only [AV.ren]; rw [AV.renL_inv cs (by simpa [AV.names] using h)]
 | .fn f cs, h => by simp only [AV.ren]; rw [AV.renL_inv cs (by simpa [AV.names] using h)]
 | .meth f cs, h => by simp only [AV.ren]; rw [AV.renL_inv cs (by simpa [AV.names] using h)]
 | .dead, _ => rfl
theorem AV.renL_inv {ρ σ : Nat → Nat} : ∀ l : List AV, (∀ n ∈ AV.namesL l, σ (ρ n) = n) → AV.renL σ (AV.renL ρ l) = l
 | [], _ => rfl
 | c :: r, h => by
  simp only [AV.renL]
  rw [AV.ren_inv c (fun n hn => h n (by simp [AV.namesL, hn])), AV.renL_inv r (fun n hn => h n (by simp [AV.namesL, hn]))]
end
mutual
theorem AV.ren_names {ρ : Nat → Nat} : ∀ x : AV, (x.ren ρ).names = x.names.map ρ
 | .d _ => rfl
 | .raw _ => rfl
 | .ptr _ _ => rfl
 | .rptr _ _ _ _ => rfl
 | .eptr _ _ => rfl
 | .own _ _ => rfl
 | .sub _ _ _ _ => rfl
 | .agg cs => by simp only [AV.ren, AV.names]; exact AV.renL_names cs
 | .tup cs => by simp only [AV.ren, AV.names]; exact AV.renL_names cs
 | .fn f cs => by simp only [AV.ren, AV.names]; exact AV.renL_names cs
 | .meth f cs => by simp only [AV.ren, AV.names]; exact AV.renL_names cs
 | .dead => rfl
theorem AV.renL_names {ρ : Nat → Nat} : ∀ l : List AV, AV.namesL (AV.renL ρ l) = (AV.namesL l).map ρ
 | [] => rfl
 | c :: r => by simp only [AV.renL, AV.namesL, List.map_append, AV.ren_names c, AV.renL_names r]
end
theorem Ob.ren_inv {ρ σ : Nat → Nat} (x : Ob) (h : ∀ n ∈ x.names, σ (ρ n) = n) : (x.ren ρ).ren σ = x := by
 cases x with
 | box cs => simp only [Ob.ren]; rw [AV.renL_inv cs (by simpa [Ob.names] using h)]
 | _ => rfl
theorem Ob.ren_names {ρ : Nat → Nat} (x : Ob) : (x.ren ρ).names = x.names.map ρ := by
 cases x with
 | box cs => simp only [Ob.ren, Ob.names]; exact AV.renL_names cs
 | _ => rfl
theorem lookE_cases (l : List (Nat × AV)) (t : Nat) : lookE l t = .dead ∨ (t, lookE l t) ∈ l := by
 induction l with
 | nil => exact .inl rfl
 | cons p r ih =>
  obtain ⟨u, v⟩ := p
  simp only [lookE]
  split
  ·next h => subst h; exact .inr (by simp)
  ·rcases ih with h | h
   ·exact .inl h
   ·exact .inr (by simp [h])
theorem lookO_cases (l : List (Nat × Ob)) (n : Nat) : (lookO l n = .none ∧ n ∉ l.map (·.1)) ∨ (n, lookO l n) ∈ l := by
 induction l with
 | nil => exact .inl ⟨rfl, by simp⟩
 | cons p r ih =>
  obtain ⟨u, v⟩ := p
  simp only [lookO]
  split
  ·next h => subst h; exact .inr (by simp)
  ·next h =>
   rcases ih with ⟨h1, h2⟩ | h1
   ·exact .inl ⟨h1, by simp only [List.map_cons, List.mem_cons, not_or]; exact ⟨fun e => h e.symm, h2⟩⟩
   ·exact .inr (by simp [h1])
theorem entE_mem {ρ : Nat → Nat} {S : AS} {l : List (Nat × AV)} (h : ∀ p ∈ entE ρ S l, p) {t : Nat} {x : AV} (hm : (t, x) ∈ l) : S.E t = x.ren ρ := by
 induction l with
 | nil => cases hm
 | cons p r ih =>
  obtain ⟨u, v⟩ := p
  rcases List.mem_cons.1 hm with h1 | h1
  ·cases h1; exact h _ (by simp [entE])
  ·exact ih (fun q hq => h q (by simp [entE, hq])) h1
theorem entO_mem {ρ : Nat → Nat} {S : AS} {l : List (Nat × Ob)} (h : ∀ p ∈ entO ρ S l, p) {n : Nat} {x : Ob} (hm : (n, x) ∈ l) : S.O (ρ n) = x.ren ρ := by
 induction l with
 | nil => cases hm
 | cons p r ih =>
  obtain ⟨u, v⟩ := p
  rcases List.mem_cons.1 hm with h1 | h1
  ·cases h1; exact h _ (by simp [entO])
  ·exact ih (fun q hq => h q (by simp [entO, hq])) h1
theorem nodup_map_inj {l : List Nat} {f : Nat → Nat} (h : (l.map f).Nodup) {a b : Nat} (ha : a ∈ l) (hb : b ∈ l) (he : f a = f b) : a = b := by
 induction l with
 | nil => cases ha
 | cons x r ih =>
  rw [List.map_cons, List.nodup_cons] at h
  rcases List.mem_cons.1 ha with h1 | h1
  ·rcases List.mem_cons.1 hb with h2 | h2
   ·rw [h1, h2]
   ·subst h1; exact absurd (he ▸ List.mem_map_of_mem h2) h.1
  ·rcases List.mem_cons.1 hb with h2 | h2
   ·subst h2; exact absurd (he ▸ List.mem_map_of_mem h1) h.1
   ·exact ih h.2 h1 h2
theorem entail_ok {k : Nat} {ws : List WH} {ρ : List (Nat × Nat)} {S : AS} {s : St} {obs : List Prop} (h : entail k ws ρ S s = some obs) (hob : ∀ p ∈ obs, p) : Ent k S (s.as S.nt) := by
 unfold entail at h
 split at h
 ·next S1 hS1 =>
  dsimp only at h
  split at h
  ·next hc =>
   obtain ⟨hnd, hnd2, hav, hon, hnn, hk⟩ := hc
   cases h
   refine (wkL_ok ws hS1).trans ?_
   have hnt : S1.nt = S.nt := by
    have : ∀ (l : List WH) (S S' : AS), wkL l S = some S' → S'.nt = S.nt := by
     intro l
     induction l with
     | nil => intro S S' h; cases h; rfl
     | cons x r ih =>
      intro S S' h
      unfold wkL at h
      split at h
      ·next S2 h2 =>
       rw [ih _ _ h]
       cases x <;> simp only [wkE] at h2 <;> (repeat' split at h2) <;> first | (cases h2; done) | (cases h2; rfl)
      ·cases h
    exact this _ _ _ hS1
   have hE := fun p hp => hob p (List.mem_append_left _ hp)
   have hOb := fun p hp => hob p (List.mem_append_right _ hp)
   intro β X a w hR
   
   let keys := s.O.map (·.1)
   let ρf := renOf ρ
   let σ : Nat → Nat := fun m => match keys.find? (fun n => ρf n == m) with | some n => n | none => 0
   have hσ : ∀ n ∈ keys, σ (ρf n) = n := fun n hn => by
    show (match keys.find? (fun n' => ρf n' == ρf n) with | some n => n | none => 0) = n
    cases hq : keys.find? (fun n' => ρf n' == ρf n) with
    | none => exact absurd (List.find?_eq_none.1 hq n hn) (by simp)
    | some m =>
     have h1 := List.find?_some hq
     have h2 := List.mem_of_find?_eq_some hq
     exact nodup_map_inj hnd2 h2 hn (by simpa using h1)
   let β2 : Nat → HE := fun n => if keys.contains n then β (ρf n) else .gone
   have hβ2 : ∀ n ∈ keys, β2 n = β (ρf n) := fun n hn => by show (if keys.contains n then β (ρf n) else HE.gone) = _; rw [if_pos (by simpa using hn)]
   have hβ20 : ∀ n, n ∉ keys → β2 n = .gone := fun n hn => by show (if keys.contains n then β (ρf n) else HE.gone) = _; rw [if_neg (by simpa using hn)]
   have hblk : ∀ n b, (β2 n).blk = some b → n ∈ keys ∧ (β (ρf n)).blk = some b := fun n b hb => by
    by_cases h : n ∈ keys
    ·exact ⟨h, by rw [← hβ2 n h]; exact hb⟩
    ·rw [hβ20 n h] at hb; cases hb
   have hMsub : ∀ b, Mset X β2 b → Mset X β b := by
    rintro b (hx | ⟨n, hn⟩)
    ·exact .inl hx
    ·exact .inr ⟨_, (hblk n b hn).2⟩
   have hlive : ∀ n ∈ keys, lookO s.O n ≠ .none := fun n hn => by
    rcases lookO_cases s.O n with ⟨-, h2⟩ | h2
    ·exact absurd hn h2
    ·have := List.all_eq_true.1 hnn _ h2
     intro he
     rw [he] at this
     cases this
   have hback : ∀ m, (∃ n ∈ keys, ρf n = m) → S1.O m ≠ .none → lookO s.O (σ m) ≠ .none ∧ (β2 (σ m) = β m ∨ β2 (σ m) = .gone) := by
    rintro m ⟨n, hn, rfl⟩ -
    rw [hσ n hn]
    exact ⟨hlive n hn, .inl (hβ2 n hn)⟩
   refine ⟨β2, ⟨hnt ▸ hR.size, hR.defers, fun t => ?_, ⟨fun n => ?_, fun n m b h1 h2 => ?_, fun n b h1 => hR.objs.priv _ b (hblk n b h1).2, hR.objs.xlt⟩⟩, ⟨Evo.refl _ _, fun o ho hno => ?_, fun b ⟨n, hn⟩ => .inl ⟨_, (hblk n b hn).2⟩⟩⟩
   ·rcases lookE_cases s.E t with h1 | h1
    ·show RAV w _ _ _ (lookE s.E t) _
     rw [h1]; exact .dead _
    ·have h2 := entE_mem hE h1
     have h3 := hR.slots t
     rw [h2] at h3
     have hnames : ∀ n ∈ (lookE s.E t).names, n ∈ keys := fun n hn => by
      exact List.contains_iff_mem.1 (List.all_eq_true.1 (List.all_eq_true.1 hav _ h1) n hn)
     have h4 := h3.ren (ρ := σ) (M' := Mset X β2) (β' := β2) (C' := fun n => lookO s.O n ≠ .none) hMsub fun m hm hcm => by
      rw [AV.ren_names] at hm
      obtain ⟨n, hn, rfl⟩ := List.mem_map.1 hm
      exact hback _ ⟨n, hnames n hn, rfl⟩ hcm
     rw [AV.ren_inv _ (fun n hn => hσ n (hnames n hn))] at h4
     exact h4
   ·rcases lookO_cases s.O n with ⟨h1, h2⟩ | h1
    ·show ObjRel w _ _ _ (lookO s.O n) _
     rw [h1, hβ20 n h2]
     exact .none
    ·have hn : n ∈ keys := List.mem_map_of_mem (f := (·.1)) h1
     have h2 := entO_mem hOb h1
     have h3 := hR.objs.rel (ρf n)
     rw [h2] at h3
     show ObjRel w _ _ _ (lookO s.O n) _
     rw [hβ2 n hn]
     have hnames : ∀ m ∈ (lookO s.O n).names, m ∈ keys := fun m hm => by
      exact List.contains_iff_mem.1 (List.all_eq_true.1 (List.all_eq_true.1 hon _ h1) m hm)
     have h4 := h3.ren (ρ := σ) (M' := Mset X β2) (β' := β2) (C' := fun n => lookO s.O n ≠ .none) hMsub fun m hm hcm => by
      rw [Ob.ren_names] at hm
      obtain ⟨q, hq, rfl⟩ := List.mem_map.1 hm
      exact hback _ ⟨q, hnames q hq, rfl⟩ hcm
     rw [Ob.ren_inv _ (fun m hm => hσ m (hnames m hm))] at h4
     exact h4
   ·obtain ⟨k1, k2⟩ := hblk n b h1
    obtain ⟨k3, k4⟩ := hblk m b h2
    exact nodup_map_inj hnd2 k1 k3 (hR.objs.inj _ _ b k2 k4)
   ·have := List.all_eq_true.1 hk o (List.mem_range.2 ho)
    simp only [Bool.and_eq_true, beq_iff_eq] at this
    have hok : o ∈ keys := List.contains_iff_mem.1 this.1
    exact ⟨hlive o hok, .inl (by rw [hβ2 o hok]; show β (renOf ρ o) = β o; rw [this.2])⟩
  ·cases h
 ·cases h
end Sx
end Go.Proofs.YtalpfhpeaaocmaaGreat
end
section
namespace Go.Proofs.YtalpfhpeaaocmaaGreat
namespace Sx
open Go.RowKit
/-- A loop's law to be used: how the state is told before it, how the loop ends, what is then. -/
structure Sub where
 ws : List WH
 ρ : List (Nat × Nat)
 pre : St
 e : Exit
 post : St
def hintsOf (H : List (Nat × List (Nat × OH))) (id : Nat) : List (Nat × OH) := match H with | [] => [] | (i, h) :: r => if i = id then h else hintsOf r id
def evC (P : Program) (k : Nat) (H : List (Nat × List (Nat × OH))) : Code → List Sub → AS → Option (List Sub × Exit × AS × List Prop)
 | .skip, m, S => some (m, .normal, S, [])
 | .label _, m, S => some (m, .normal, S, [])
 | .exit id, m, S => some (m, .exit id, S, [])
 | .goto l, m, S => some (m, .goto l, S, [])
 | .ret, m, S => some (m, .ret, S, [])
 | .region id ops draw, m, S => match regEv P (FnOK P) ops draw (hintsOf H id) S with
  | some (S', obs) => some (m, .normal, S', obs)
  | none => none
 | .seq x y, m, S => match evC P k H x m S with
  | some (m1, e1, S1, o1) => match e1 with
   | .normal => match evC P k H y m1 S1 with
    | some (m2, e2, S2, o2) => some (m2, e2, S2, o1 ++ o2)
    | none => none
   | e1 => some (m1, e1, S1, o1)
  | none => none
 | .cond c x y, m, S => match S.ev c with
  | .d (.bool b) => match b with
   | true => evC P k H x m S
   | false => evC P k H y m S
  | _ => none
 | .block id c, m, S => match evC P k H c m S with
  | some (m1, e, S1, o) => some (m1, blockExit id e, S1, o)
  | none => none
 | .loop c, m, S => match m with
  | s :: r => match entail k s.ws s.ρ S s.pre with
   | some obs => some (r, s.e, s.post.as S.nt, Loops P k c (s.pre.as S.nt) s.e (s.post.as S.nt) :: obs)
   | none => none
  | [] => none
 | .scope c, m, S => match evC P k H c m S with
  | some (m1, e, S1, o) => match e with
   | .goto _ => none
   | e => some (m1, e, S1, o)
  | none => none
 | _, _, _ => none
section
variable {P : Program} {k : Nat}

def resV (P : Program) (S : AS) : ResultVar → Option (AV × List Prop)
 | .tmp t => some (S.E t, [])
 | .cell a T => match actLoad P T (S.E a) .n S.O with
  | some e => some (e.val, e.obs)
  | none => none
def resVs (P : Program) (S : AS) : List ResultVar → Option (List AV × List Prop)
 | [] => some ([], [])
 | r :: l => match resV P S r with
  | some (x, o1) => match resVs P S l with
   | some (xs, o2) => some (x :: xs, o1 ++ o2)
   | none => none
  | none => none
def joined : List AV → AV
 | [x] => x
 | l => .tup l
def entryE (args : List AV) (t : Nat) : AV := match args[t]? with | some x => x | none => .dead
def numbered : Nat → List Ob → List (Nat × Ob)
 | _, [] => []
 | i, x :: r => (i, x) :: numbered (i + 1) r
def okExit : Exit → Bool
 | .normal => true
 | .ret => true
 | _ => false
def resM (tmps : Array Value) (r : ResultVar) : Sem Value :=
 match r with
 | .tmp t => pure (tmps.getD t undef)
 | .cell a t => do
  let p ← asAddr (tmps.getD a undef)
  loadVar t p
def joinedV : List Value → Value
 | [x] => x
 | l => .tuple l.toArray
theorem results_of {fn : Func} {tmps : Array Value} {w : World} {vs : List Value} (hl : vs.length = fn.results.toList.length) (h4 : fn.results.toList.length ≤ 5)
  (h : ∀ (j : Nat) (r : ResultVar) (v : Value), fn.results.toList[j]? = some r → vs[j]? = some v → (resM tmps r).run P w = .ok v w) :
  (results fn tmps).run P w = .ok (joinedV vs) w := by
 have hr : results fn tmps = (do let vs ← fn.results.mapM (resM tmps); pure (if h : vs.size = 1 then vs[0] else Value.tuple vs)) := rfl
 rw [hr]
 obtain ⟨l, hres⟩ : ∃ l : List ResultVar, fn.results = l.toArray := ⟨fn.results.toList, by simp⟩
 rw [hres] at hl h4 h ⊢
 match l, vs, hl, h4, h with
 | [], [], _, _, _ => simp [joinedV]
 | [r0], [v0], _, _, h => simp [joinedV, Sem.run_bind, h 0 r0 v0 rfl rfl]
 | [r0, r1], [v0, v1], _, _, h => simp [joinedV, Sem.run_bind, h 0 r0 v0 rfl rfl, h 1 r1 v1 rfl rfl]
 | [r0, r1, r2], [v0, v1, v2], _, _, h => simp [joinedV, Sem.run_bind, h 0 r0 v0 rfl rfl, h 1 r1 v1 rfl rfl, h 2 r2 v2 rfl rfl]
 | [r0, r1, r2, r3], [v0, v1, v2, v3], _, _, h => simp [joinedV, Sem.run_bind, h 0 r0 v0 rfl rfl, h 1 r1 v1 rfl rfl, h 2 r2 v2 rfl rfl, h 3 r3 v3 rfl rfl]
 | [r0, r1, r2, r3, r4], [v0, v1, v2, v3, v4], _, _, h => simp [joinedV, Sem.run_bind, h 0 r0 v0 rfl rfl, h 1 r1 v1 rfl rfl, h 2 r2 v2 rfl rfl, h 3 r3 v3 rfl rfl, h 4 r4 v4 rfl rfl]
 | _ :: _ :: _ :: _ :: _ :: _ :: _, _, _, h4, _ => simp at h4
theorem resVs_ok {S : AS} {β : Nat → HE} {X : Nat → Prop} {a : Act} {w : World} (hR : Rel S β X a w) : ∀ {l : List ResultVar} {xs : List AV} {obs : List Prop}, resVs P S l = some (xs, obs) → (∀ p ∈ obs, p) →
  ∃ vs : List Value, vs.length = l.length ∧ xs.length = l.length ∧ (∀ (j : Nat) (r : ResultVar) (v : Value), l[j]? = some r → vs[j]? = some v → (resM a.tmps r).run P w = .ok v w) ∧
   (∀ (j : Nat) (x : AV) (v : Value), xs[j]? = some x → vs[j]? = some v → AR S.O β X w x v) := by
 intro l
 induction l with
 | nil => intro xs obs h _; simp only [resVs] at h; cases h; exact ⟨[], rfl, rfl, fun j r v h => by simp at h, fun j r v h => by simp at h⟩
 | cons r l ih =>
  intro xs obs h hob
  simp only [resVs] at h
  split at h
  ·next x o1 h1 =>
   split at h
   ·next xs' o2 h2 =>
    cases h
    obtain ⟨vs, k1, k2, k3, k4⟩ := ih h2 fun p hp => hob p (List.mem_append_right _ hp)
    obtain ⟨v, hv1, hv2⟩ : ∃ v, (resM a.tmps r).run P w = .ok v w ∧ AR S.O β X w x v := by
     cases r with
     | tmp t =>
      simp only [resV] at h1
      cases h1
      exact ⟨_, rfl, hR.slots t⟩
     | cell b T =>
      simp only [resV] at h1
      split at h1
      ·next e he =>
       cases h1
       obtain ⟨v, q1, q2, -⟩ := actLoad_ok hR.objs (fun n => .inl rfl) (hR.slots b) he fun p hp => hob p (List.mem_append_left _ hp)
       refine ⟨v, ?_, q2⟩
       have hsa : ∀ u w', (Instr.loadAt T u).run P w = .ok v w' → (do let p ← asAddr u; loadVar T p : Sem Value).run P w = .ok v w' := by
        intro u w' hh
        unfold Instr.loadAt Instr.sureAddr at hh
        unfold asAddr
        split at hh <;> first | exact hh | (exfalso; simp [Sem.run_bind] at hh; done)
       exact hsa _ _ q1
      ·cases h1
    refine ⟨v :: vs, by simp [k1], by simp [k2], fun j r' v' h5 h6 => ?_, fun j x' v' h5 h6 => ?_⟩
    ·cases j with
     | zero => cases h5; cases h6; exact hv1
     | succ j => exact k3 j r' v' h5 h6
    ·cases j with
     | zero => cases h5; cases h6; exact hv2
     | succ j => exact k4 j x' v' h5 h6
   ·cases h
  ·cases h
theorem joined_ok {M : Nat → Prop} {β : Nat → HE} {C : Nat → Prop} {w : World} {xs : List AV} {vs : List Value} (hl : xs.length = vs.length) (h : ∀ (j : Nat) (x : AV) (v : Value), xs[j]? = some x → vs[j]? = some v → RAV w M β C x v) :
  RAV w M β C (joined xs) (joinedV vs) := by
 have htup : RAV w M β C (.tup xs) (.tuple vs.toArray) := .tup _ _ (by simpa using hl.symm) fun j x hj => by
  have hlt := (List.getElem?_eq_some_iff.1 hj).1
  have := h j x (vs[j]'(by omega)) hj (by simp)
  simpa [hl ▸ hlt] using this
 match xs, vs, hl with
 | [], [], _ => exact htup
 | [x], [v], _ => exact h 0 x v rfl rfl
 | _ :: _ :: _, _ :: _ :: _, _ => exact htup
theorem numbered_look : ∀ (l : List Ob) (i n : Nat), lookO (numbered i l) n = if i ≤ n then Oof l (n - i) else .none := by
 intro l
 induction l with
 | nil => intro i n; simp [numbered, lookO, Oof]
 | cons x r ih =>
  intro i n
  simp only [numbered, lookO]
  split
  ·next h => subst h; simp [Oof]
  ·next h =>
   rw [ih]
   by_cases h1 : i ≤ n
   ·rw [if_pos (by omega), if_pos h1]
    have : n - i = (n - (i + 1)) + 1 := by omega
    rw [this]
    simp [Oof]
   ·rw [if_neg (by omega), if_neg h1]

def loopsIn : Code → List Code
 | .seq x y => loopsIn x ++ loopsIn y
 | .cond _ x y => loopsIn x ++ loopsIn y
 | .block _ c => loopsIn c
 | .scope c => loopsIn c
 | .loop c => c :: loopsIn c
 | .rangeFunc _ _ c d => loopsIn c ++ loopsIn d
 | _ => []
/-- The i-th loop of a function's text, from above. -/
def loopN (P : Program) (f : FuncId) (i : Nat) : Code :=
 match P.funcs[f]? with
 | some fn => match fn.body with
  | some c => match (loopsIn c)[i]? with | some x => x | none => .skip
  | none => .skip
 | none => .skip
def exitEq : Exit → Exit → Bool
 | .normal, .normal => true
 | .ret, .ret => true
 | .exit a, .exit b => a == b
 | .goto a, .goto b => a == b
 | _, _ => false
theorem exitEq_eq {a b : Exit} (h : exitEq a b = true) : a = b := by
 cases a <;> cases b <;> simp_all [exitEq]
end
end Sx
end Go.Proofs.YtalpfhpeaaocmaaGreat
end
section
namespace Go.Proofs.YtalpfhpeaaocmaaGreat
namespace Sx
open Go.RowKit Go.ChangeAt
/-- What one cell of plain data holds. -/
inductive CK where
 | int (k : IntKind)
 | bool
 | str
 | sl (ag : Bool) (e : List CK)
mutual
def CK.has : CK → D → Prop
 | .int k, d => ∃ n, d = .int k n ∧ (Lit.int k n).wf = true
 | .bool, d => ∃ b, d = .bool b
 | .str, d => ∃ s, d = .str s ∧ s.length ≤ maxLen
 | .sl ag e, d => ∃ es, d = .sl es ∧ es.length ≤ maxLen ∧ ∀ x ∈ es, ∃ cs, CK.hasL e cs ∧ (if ag then x = .agg cs else cs = [x])
def CK.hasL : List CK → List D → Prop
 | [], ds => ds = []
 | c :: r, ds => ∃ d l, ds = d :: l ∧ c.has d ∧ CK.hasL r l
end

/-- A type's cells; is it of several cells? The fields must lie one behind the other. -/
def shFs (cellsOf : TypeId → Nat) (sh : TypeId → Option (Bool × List CK)) : Nat → List Field → Option (List CK)
 | _, [] => some []
 | off, f :: r => match sh f.type with
  | some (_, k) => if f.offset = off ∧ cellsOf f.type = k.length then match shFs cellsOf sh (off + k.length) r with | some l => some (k ++ l) | none => none else none
  | none => none
def repL : Nat → List CK → List CK
 | 0, _ => []
 | n + 1, k => k ++ repL n k
def shape (P : Program) : Nat → TypeId → Option (Bool × List CK)
 | 0, _ => none
 | n + 1, T => match P.underlying T with
  | some .bool => some (false, [.bool])
  | some (.int k) => some (false, [.int k])
  | some .string => some (false, [.str])
  | some (.slice e) => match shape P n e with
   | some (ag, l) => if P.cellsOf e = l.length ∧ (ag = true ∨ l.length = 1) ∧ 0 < l.length then some (false, [.sl ag l]) else none
   | none => none
  | some (.struct fs) => match shFs P.cellsOf (shape P n) 0 fs.toList with
   | some l => if P.cellsOf T = l.length then some (true, l) else none
   | none => none
  | some (.array m e) => match shape P n e with
   | some (_, l) => if P.cellsOf e = l.length ∧ P.cellsOf T = m * l.length then some (true, repL m l) else none
   | none => none
  | _ => none
def RepL (w : World) (ds : List D) (cs : List Value) : Prop := ds.length = cs.length ∧ ∀ (j : Nat) (d : D), ds[j]? = some d → d.one = true ∧ RepD w (fun _ => False) d (cs.getD j undef)
theorem hasL_append {a b : List CK} {x y : List D} (hx : CK.hasL a x) (hy : CK.hasL b y) : CK.hasL (a ++ b) (x ++ y) := by
 induction a generalizing x with
 | nil => simp only [CK.hasL] at hx; subst hx; exact hy
 | cons c r ih =>
  simp only [CK.hasL] at hx
  obtain ⟨d, l, rfl, h1, h2⟩ := hx
  simp only [List.cons_append, CK.hasL]
  exact ⟨d, l ++ y, rfl, h1, ih h2⟩
theorem hasL_len {a : List CK} {x : List D} (hx : CK.hasL a x) : x.length = a.length := by
 induction a generalizing x with
 | nil => simp only [CK.hasL] at hx; subst hx; rfl
 | cons c r ih =>
  simp only [CK.hasL] at hx
  obtain ⟨d, l, rfl, h1, h2⟩ := hx
  simp [ih h2]
theorem RepL.append {w : World} {a b : List D} {x y : List Value} (ha : RepL w a x) (hb : RepL w b y) : RepL w (a ++ b) (x ++ y) := by
 refine ⟨by simp [ha.1, hb.1], fun j d hj => ?_⟩
 rcases Nat.lt_or_ge j a.length with h | h
 ·rw [List.getElem?_append_left h] at hj
  have := ha.2 j d hj
  rw [List.getD_eq_getElem?_getD, List.getElem?_append_left (ha.1 ▸ h), ← List.getD_eq_getElem?_getD]
  exact this
 ·rw [List.getElem?_append_right h] at hj
  have := hb.2 _ d hj
  rw [List.getD_eq_getElem?_getD, List.getElem?_append_right (ha.1 ▸ h), ← ha.1, ← List.getD_eq_getElem?_getD]
  exact this
theorem RepL.one {w : World} {d : D} {v : Value} (h1 : d.one = true) (h : RepD w (fun _ => False) d v) : RepL w [d] [v] := by
 refine ⟨rfl, fun j x hj => ?_⟩
 cases j with
 | zero => cases hj; exact ⟨h1, h⟩
 | succ j => simp at hj
section
variable {P : Program} {w : World} {H : Type} {enc : TypeId × Value → H}
theorem trod_fields {n fuel : Nat} {base : Nat} {spare : Nat → Bool} {held : Bool}
  (ih : ∀ {T : TypeId} {ag : Bool} {ks : List CK} {fuel : Nat} {cs : List Value} {x : DataW H × List MemPlace}, shape P n T = some (ag, ks) → DataW.trod enc P w base spare held fuel T cs = some x → ∃ ds, CK.hasL ks ds ∧ RepL w ds cs)
  {cs : List Value} : ∀ {fs : List Field} {off : Nat} {ks : List CK}, shFs P.cellsOf (shape P n) off fs = some ks →
   (∀ f ∈ fs, ∃ y, DataW.trod enc P w base spare held fuel f.type ((cs.drop f.offset).take (P.cellsOf f.type)) = some y) → cs.length = off + ks.length → ∃ ds, CK.hasL ks ds ∧ RepL w ds (cs.drop off) := by
 intro fs
 induction fs with
 | nil =>
  intro off ks hs _ hl
  simp only [shFs] at hs; cases hs
  refine ⟨[], rfl, ?_, fun j d hj => by simp at hj⟩
  simp at hl ⊢; omega
 | cons f r ihf =>
  intro off ks hs hm hl
  simp only [shFs] at hs
  split at hs
  ·next ag k hk =>
   split at hs
   ·next hc =>
    split at hs
    ·next l hr =>
     cases hs
     obtain ⟨y, h1⟩ := hm f (by simp)
     obtain ⟨d1, q1, q2⟩ := ih hk h1
     obtain ⟨d2, q3, q4⟩ := ihf hr (fun g hg => hm g (by simp [hg])) (by rw [hl]; simp; omega)
     refine ⟨d1 ++ d2, hasL_append q1 q3, ?_⟩
     have := q2.append q4
     rw [hc.1, hc.2, show cs.drop (off + k.length) = (cs.drop off).drop k.length by rw [List.drop_drop], List.take_append_drop] at this
     exact this
    ·cases hs
   ·cases hs
  ·cases hs
theorem trod_elems {n fuel : Nat} {base : Nat} {spare : Nat → Bool} {held : Bool} {e : TypeId} {ag : Bool} {k : List CK} (hsh : shape P n e = some (ag, k)) (hce : P.cellsOf e = k.length)
  (ih : ∀ {T : TypeId} {ag : Bool} {ks : List CK} {fuel : Nat} {cs : List Value} {x : DataW H × List MemPlace}, shape P n T = some (ag, ks) → DataW.trod enc P w base spare held fuel T cs = some x → ∃ ds, CK.hasL ks ds ∧ RepL w ds cs)
  {cs : List Value} : ∀ {m i : Nat},
   (∀ i', i ≤ i' → i' < i + m → ∃ y, DataW.trod enc P w base spare held fuel e ((cs.drop (i' * P.cellsOf e)).take (P.cellsOf e)) = some y) → cs.length = (i + m) * k.length → ∃ ds, CK.hasL (repL m k) ds ∧ RepL w ds (cs.drop (i * k.length)) := by
 intro m
 induction m with
 | zero =>
  intro i _ hl
  refine ⟨[], rfl, ?_, fun j d hj => by simp at hj⟩
  simp at hl ⊢; omega
 | succ m ihm =>
  intro i hm hl
  obtain ⟨y, h1⟩ := hm i (Nat.le_refl _) (by omega)
  obtain ⟨d1, q1, q2⟩ := ih hsh h1
  obtain ⟨d2, q3, q4⟩ := ihm (i := i + 1) (fun i' h1 h2 => hm i' (by omega) (by omega)) (by rw [hl]; congr 1; omega)
  refine ⟨d1 ++ d2, hasL_append q1 q3, ?_⟩
  have := q2.append q4
  rw [hce, Nat.add_mul, Nat.one_mul, ← List.drop_drop, List.take_append_drop] at this
  exact this
theorem trod_rep : ∀ {n : Nat} {T : TypeId} {ag : Bool} {ks : List CK} {fuel : Nat} {base : Nat} {spare : Nat → Bool} {held : Bool} {cs : List Value} {x : DataW H × List MemPlace}, shape P n T = some (ag, ks) → DataW.trod enc P w base spare held fuel T cs = some x →
  ∃ ds, CK.hasL ks ds ∧ RepL w ds cs := by
 intro n
 induction n with
 | zero => intro T ag ks fuel base spare held cs x hs _; cases hs
 | succ n ih =>
  intro T ag ks fuel base spare held cs x hs hx
  cases fuel with
  | zero => rw [DataW.trod.eq_def] at hx; cases hx
  | succ fuel =>
   simp only [shape] at hs
   split at hs
   ·next hu =>
    cases hs
    obtain ⟨b, rfl, -⟩ := DataW.trod_bool hu hx
    exact ⟨[.bool b], ⟨_, _, rfl, ⟨b, rfl⟩, rfl⟩, .one rfl (.bool b)⟩
   ·next k hu =>
    cases hs
    obtain ⟨m, rfl, -, hw⟩ := DataW.trod_int hu hx
    exact ⟨[.int k m], ⟨_, _, rfl, ⟨m, rfl, hw⟩, rfl⟩, .one rfl (.int k m)⟩
   ·next hu =>
    cases hs
    obtain ⟨s, rfl, -, hw⟩ := DataW.trod_string hu hx
    exact ⟨[.str s.data.toList], ⟨_, _, rfl, ⟨_, rfl, by simpa using hw⟩, rfl⟩, .one rfl (.str _)⟩
   ·next e hu =>
    split at hs
    ·next ag' l hl =>
     split at hs
     ·next hc =>
      cases hs
      rcases DataW.trod_slice hu hx with ⟨rfl, -⟩ | ⟨a, len, cap, elems, rest, m, hm, rfl, -, hb, hlc, hcm, hlen, hel, -, -⟩
      ·exact ⟨[.sl []], ⟨_, _, rfl, ⟨[], rfl, by simp, fun x hx => by simp at hx⟩, rfl⟩, .one rfl (.nil _ _)⟩
      ·have each : ∀ i, i < len → ∃ us ds, w.cells? base (a.add (i * P.cellsOf e)) (P.cellsOf e) = some us ∧ CK.hasL l ds ∧ RepL w ds us := by
        intro i hi
        have h1 := hel i hi
        rw [List.getElem?_eq_getElem (by omega), Option.bind_eq_some_iff] at h1
        obtain ⟨us, h2, h3⟩ := h1
        obtain ⟨ds, h4, h5⟩ := ih hl h3
        exact ⟨us, ds, h2, h4, h5⟩
       let us : Nat → List Value := fun i => if h : i < len then (each i h).choose else []
       let ds : Nat → List D := fun i => if h : i < len then (each i h).choose_spec.choose else []
       have hus : ∀ i, i < len → w.cells? base (a.add (i * P.cellsOf e)) (P.cellsOf e) = some (us i) ∧ CK.hasL l (ds i) ∧ RepL w (ds i) (us i) := by
        intro i hi
        have := (each i hi).choose_spec.choose_spec
        simp only [us, ds, hi, dif_pos]
        exact this
       let mk : List D → D := fun cs => if ag' then .agg cs else (match cs with | [x] => x | _ => .agg cs)
       have hmk : ∀ cs, cs.length = l.length → (∀ d ∈ cs, d.one = true) → (mk cs).cells = cs ∧ (if ag' then mk cs = .agg cs else cs = [mk cs]) := by
        intro cs hcs hone
        simp only [mk]
        cases ag' with
        | true => simp [D.cells]
        | false =>
         have h1 : l.length = 1 := hc.2.1.resolve_left (by simp)
         match cs, hcs.trans h1 with
         | [x], _ =>
          refine ⟨?_, by simp⟩
          have := hone x (by simp)
          cases x <;> simp_all [D.cells, D.one]
       have hone : ∀ i, i < len → ∀ d ∈ ds i, d.one = true := by
        intro i hi d hd
        obtain ⟨j, hj⟩ := List.getElem?_of_mem hd
        exact ((hus i hi).2.2.2 j d hj).1
       have hlenD : ∀ i, i < len → (ds i).length = l.length := fun i hi => hasL_len (hus i hi).2.1
       have hes : ((List.range len).map fun i => mk (ds i)).length = len := by simp
       refine ⟨[.sl ((List.range len).map fun i => mk (ds i))], ⟨_, _, rfl, ⟨_, rfl, by rw [hes]; omega, fun x hx => ?_⟩, rfl⟩, .one rfl ?_⟩
       ·obtain ⟨i, hi, rfl⟩ := List.mem_map.1 hx
        have hi := List.mem_range.1 hi
        exact ⟨ds i, (hus i hi).2.1, (hmk _ (hlenD i hi) (hone i hi)).2⟩
       ·by_cases h0 : len = 0
        ·subst h0
         exact .nil _ _
        ·have hlpos : 0 < l.length := hc.2.2
         have hblk : a.block < w.heap.size := by
          have := World.cells?_block (hus 0 (by omega)).1 (by rw [hc.1]; exact hlpos)
          simpa [Addr.add] using this
         have hrep := RepD.sl (w := w) (M := fun _ => False) ((List.range len).map fun i => mk (ds i)) a cap l.length (fun i j => (us i).getD j undef) (by rw [hes]; exact hlc) hblk (fun h => h)
          (fun x hx => by
           obtain ⟨i, hi, rfl⟩ := List.mem_map.1 hx
           have hi := List.mem_range.1 hi
           rw [(hmk _ (hlenD i hi) (hone i hi)).1]
           exact ⟨hlenD i hi, hone i hi⟩)
          (fun i j hi hj => by
           rw [hes] at hi
           obtain ⟨h1, h2, h3⟩ := hus i hi
           obtain ⟨-, h4, h5⟩ := World.cells?_some h1
           have := h5 j (by rw [hc.1]; exact hj)
           rw [hc.1, Addr.add_add] at this
           rw [this, List.getD_eq_getElem?_getD, List.getElem?_eq_getElem (by rw [h4, hc.1]; exact hj)]
           rfl)
          (fun i j x d h1 h2 => by
           have hi : i < len := by have := (List.getElem?_eq_some_iff.1 h1).1; rw [hes] at this; exact this
           rw [List.getElem?_map, List.getElem?_range hi] at h1
           cases h1
           rw [(hmk _ (hlenD i hi) (hone i hi)).1] at h2
           exact ((hus i hi).2.2.2 j d h2).2)
         rw [hes] at hrep
         exact hrep
     ·cases hs
    ·cases hs
   ·next fs hu =>
    split at hs
    ·next l hl =>
     split at hs
     ·next hc =>
      cases hs
      obtain ⟨xs, m, -, -, hcs, hxl, hmap⟩ := DataW.trod_struct hu hx
      obtain ⟨ds, h1, h2⟩ := trod_fields (w := w) (fun h1 h2 => ih h1 h2) hl (fun f hf => by
       obtain ⟨i, hi⟩ := List.getElem?_of_mem hf
       have hi' : fs[i]? = some f := by simpa using hi
       have := hmap i f hi'
       rw [List.getElem?_eq_getElem (by rw [hxl]; exact (Array.getElem?_eq_some_iff.1 hi').1)] at this
       exact ⟨_, this⟩) (by rw [hcs, hc]; simp)
      exact ⟨ds, h1, by simpa using h2⟩
     ·cases hs
    ·cases hs
   ·next m e hu =>
    split at hs
    ·next ag' l hl =>
     split at hs
     ·next hc =>
      cases hs
      obtain ⟨xs, q, -, -, hcs, hxl, hmap⟩ := DataW.trod_array hu hx
      obtain ⟨ds, h1, h2⟩ := trod_elems (w := w) (i := 0) (m := m) hl hc.1 (fun h1 h2 => ih h1 h2) (fun i _ hi => by
       have := hmap i (by omega)
       rw [List.getElem?_eq_getElem (by omega)] at this
       exact ⟨_, this⟩) (by rw [hcs, hc.2]; simp)
      exact ⟨ds, h1, by simpa using h2⟩
     ·cases hs
    ·cases hs
   ·cases hs
/-- One argument: a value that is read as data stands for plain data of its type. -/
theorem arg_rep {n : Nat} {T : TypeId} {ag : Bool} {ks : List CK} {base b0 : Nat} {spare : Nat → Bool} {held : Bool} {r : Reach} {v : Value} {d : DataW H} {ps : List MemPlace} (hs : shape P n T = some (ag, ks))
  (hv : Value.okWide P w r b0 T v) (h : DataW.Trod enc P w base spare held T v d ps) :
  ∃ x : D, (∃ ds, CK.hasL ks ds ∧ (if ag then x = .agg ds else ds = [x])) ∧ RepD w (fun _ => False) x v := by
 obtain ⟨fuel, h⟩ := h
 obtain ⟨ds, h1, h2⟩ := trod_rep hs h
 have hagg : ∀ a : Array Value, v = .agg a → RepD w (fun _ => False) (.agg ds) v := by
  rintro a rfl
  simp only [Value.cells] at h2
  refine .agg ds a (by simpa using h2.1.symm) (fun d hd => ?_) fun j d hj => ?_
  ·obtain ⟨j, hj⟩ := List.getElem?_of_mem hd
   exact (h2.2 j d hj).1
  ·have := (h2.2 j d hj).2
   simpa [Array.getD_eq_getD_getElem?] using this
 have hone : ∀ k, ks = [k] → ag = false → v.cells = #[v] → ∃ x : D, (∃ ds, CK.hasL ks ds ∧ (if ag then x = .agg ds else ds = [x])) ∧ RepD w (fun _ => False) x v := by
  intro k hk hag hc
  subst hk hag
  have h1' := h1
  simp only [CK.hasL] at h1'
  obtain ⟨d, l, rfl, h3, rfl⟩ := h1'
  rw [hc] at h2
  exact ⟨d, ⟨_, h1, by simp⟩, (h2.2 0 d rfl).2⟩
 cases n with
 | zero => cases hs
 | succ n =>
  simp only [shape] at hs
  split at hs
  ·next hu =>
   cases hs
   obtain ⟨b, hb, -⟩ := DataW.trod_bool hu h
   refine hone _ rfl rfl ?_
   unfold Value.okWide at hv; rw [hu] at hv
   unfold Cell.okWide at hv; rw [hu] at hv
   cases v <;> first | rfl | (simp [Cell.ok, hu] at hv)
  ·next k hu =>
   cases hs
   refine hone _ rfl rfl ?_
   unfold Value.okWide at hv; rw [hu] at hv
   unfold Cell.okWide at hv; rw [hu] at hv
   cases v <;> first | rfl | (simp [Cell.ok, hu] at hv)
  ·next hu =>
   cases hs
   refine hone _ rfl rfl ?_
   unfold Value.okWide at hv; rw [hu] at hv
   unfold Cell.okWide at hv; rw [hu] at hv
   cases v <;> first | rfl | (simp [Cell.ok, hu] at hv)
  ·next e hu =>
   have hsl := Go.WideShapes.okWide_slice hu hv
   split at hs
   ·split at hs
    ·cases hs
     obtain ⟨a, len, cap, rfl⟩ := hsl
     exact hone _ rfl rfl rfl
    ·cases hs
   ·cases hs
  ·next fs hu =>
   unfold Value.okWide at hv; rw [hu] at hv
   obtain ⟨cs, hv, -⟩ := hv
   split at hs
   ·split at hs
    ·cases hs; exact ⟨_, ⟨ds, h1, by simp⟩, hagg _ hv⟩
    ·cases hs
   ·cases hs
  ·next m e hu =>
   unfold Value.okWide at hv; rw [hu] at hv
   obtain ⟨cs, hv, -⟩ := hv
   split at hs
   ·split at hs
    ·cases hs; exact ⟨_, ⟨ds, h1, by simp⟩, hagg _ hv⟩
    ·cases hs
   ·cases hs
  ·cases hs
/-- A law that holds by contract, at a call: true, and nothing that was there has turned. -/
theorem calls_of_fnOK {f : FuncId} {ds : List D} {vs : Array Value} (h : FnOK P f (ds.map .d) [] (.d (.bool true)) []) (hl : vs.size = ds.length) (hv : ∀ (j : Nat) (d : D), ds[j]? = some d → RepD w (fun _ => False) d (vs.getD j undef)) :
  Calls P f vs w fun e w' => e = .returned (.bool true) ∧ Below w.heap.size w w' := by
 have hM : ∀ b, Mset (fun _ => False) (fun _ => HE.gone) b → False := by
  rintro b (hx | ⟨n, hn⟩)
  ·exact hx
  ·cases hn
 have hO : Objs (Oof []) (fun _ => HE.gone) (fun _ => False) w := ⟨fun n => ObjRel.none, fun n m b h1 => by simp [HE.blk] at h1, fun n b h1 => by simp [HE.blk] at h1, fun b hb => hb.elim⟩
 have hC : CR (Oof []) (fun _ => HE.gone) (fun _ => False) w (ds.map .d) vs := by
  refine ⟨by simpa using hl, fun j x hj => ?_⟩
  rw [List.getElem?_map] at hj
  cases hd : ds[j]? with
  | none => rw [hd] at hj; cases hj
  | some d =>
   rw [hd] at hj
   cases hj
   exact .d _ _ ((hv j d hd).mono (T := fun _ => False) (Evo.refl _ _) (fun _ h => h.elim) (fun b hb => .inl (hM b hb)))
 refine (h.2 w (fun _ => False) (fun _ => .gone) vs hO hC).mono fun e w' ⟨v, β', he, hr, _, hs⟩ => ⟨?_, ?_⟩
 ·rw [he, hr.d_inv.bool_inv]
 ·exact ⟨hs.evo.os, hs.evo.tape, hs.evo.output, hs.evo.size, fun k hk => hs.evo.block k hk (fun ⟨o, ho⟩ => by cases ho)⟩
end
end Sx
end Go.Proofs.YtalpfhpeaaocmaaGreat
end
section
namespace Go.Proofs.YtalpfhpeaaocmaaGreat
namespace Sx
open Go.RowKit
def condP (b : Bool) (p q : Prop) : Prop := match b with | true => p | false => q
theorem condP_intro {b : Bool} {p q : Prop} (h : b = true → p) (g : b = false → q) : condP b p q := by cases b <;> simp_all [condP]
theorem condP_t {b : Bool} {p q : Prop} (h : b = true) (g : p) : condP b p q := by subst h; exact g
def obsP : List Prop → Prop → Prop
 | [], K => K
 | p :: r, K => p ∧ obsP r K
theorem obsP_iff : ∀ {l : List Prop} {K : Prop}, obsP l K → (∀ p ∈ l, p) ∧ K
 | [], _, h => ⟨by simp, h⟩
 | p :: r, K, h => by
  obtain ⟨h1, h2⟩ := h
  obtain ⟨h3, h4⟩ := obsP_iff h2
  exact ⟨fun q hq => by rcases List.mem_cons.1 hq with rfl | hq; exact h1; exact h3 q hq, h4⟩
/-- Hints: for single operations; for whole regions; for calls; by slots. `chain`: all && and || go on to their ends. -/
structure Hn where
 H : List (Nat × List (Nat × OH)) := []
 W : List (Nat × List WH) := []
 G : List (Nat × (List D → Option (AV × List Ob))) := []
 els : List (Nat × OH) := []
 chain : Bool := false
 free : List Nat := []
 mid : List (Nat × List (Nat × List WH)) := []
def slotHint (els : List (Nat × OH)) (t : Nat) : Option OH := match els with | [] => none | (u, h) :: r => if u = t then some h else slotHint r t
def callHint (G : List (Nat × (List D → Option (AV × List Ob)))) (f : Nat) : Option OH := match G with | [] => none | (u, g) :: r => if u = f then some (.fn g) else callHint r f
def opHint (h : Hn) (o : Oper) : Option OH :=
 match o.op with
 | .call c => match c.callee with
  | .value (.func f) => callHint h.G f
  | .value (.tmp t) => slotHint h.els t
  | _ => none
 | .indexAddr _ (.tmp t) _ => slotHint h.els t
 | .index _ (.tmp t) _ => slotHint h.els t
 | .load _ (.tmp t) => slotHint h.els t
 | .store _ (.tmp t) _ => slotHint h.els t
 | .convert _ _ (.tmp t) => slotHint h.els t
 | .alloc _ => match o.dst with | some d => slotHint h.els d | none => none
 | _ => none
def hasKey (hs : List (Nat × OH)) (i : Nat) : Bool := match hs with | [] => false | (j, _) :: r => if j = i then true else hasKey r i
def autoH (h : Hn) (hs : List (Nat × OH)) : Nat → List Oper → List (Nat × OH)
 | _, [] => []
 | i, o :: r => if hasKey hs i then autoH h hs (i + 1) r else match opHint h o with | some x => (i, x) :: autoH h hs (i + 1) r | none => autoH h hs (i + 1) r
/-- The operations on which others hang. -/
def guardsOf : List Oper → List (Nat × Bool)
 | [] => []
 | o :: r => match o.guard with | some (j, b) => (j, b) :: guardsOf r | none => guardsOf r
def wantOf (gs : List (Nat × Bool)) (i : Nat) : Option Bool := match gs with | [] => none | (j, b) :: r => if j = i then some b else wantOf r i
def autoG (hs : List (Nat × OH)) (gs : List (Nat × Bool)) : List Nat → List (Nat × Bool)
 | [] => []
 | i :: r => match wantOf gs i with
  | some b => if hasKey hs i then autoG hs gs r else (i, b) :: autoG hs gs r
  | none => autoG hs gs r
def wkT : List WH → AS → AS
 | [], S => S
 | w :: r, S => match wkE w S with | some S1 => wkT r S1 | none => wkT r S
theorem wkT_ok {k : Nat} : ∀ (l : List WH) (S : AS), Ent k S (wkT l S)
 | [], S => Ent.refl S
 | w :: r, S => by
  unfold wkT
  split
  ·next S1 h1 => exact (wkE_ok h1).trans (wkT_ok r S1)
  ·exact wkT_ok r S
def regW (P : Program) (ops : Array Oper) (draw : Bool) (S0 : AS) (K : AS → Prop) : List (Nat × Bool) → List (Nat × OH) → Nat → AS → Prop
 | [], hs, _, _ => match regEv P (FnOK P) ops draw hs S0 with | some (S', obs) => obsP obs (K S') | none => False
 | (j, _) :: r, hs, fr, Sc =>
  match runT P (FnOK P) ops hs (List.range' fr (j + 1 - fr)) Sc with
  | none => False
  | some (S1, _, _) =>
   match ops[j]? with
   | none => False
   | some o => match o.dst with
    | none => False
    | some d => match S1.E d with
     | .d (.bool b) => condP b
       (regW P ops draw S0 K r ((j, .val (.bool true)) :: hs) (j + 1) { S1 with E := upd S1.E d (.d (.bool true)) })
       (regW P ops draw S0 K r ((j, .val (.bool false)) :: hs) (j + 1) { S1 with E := upd S1.E d (.d (.bool false)) })
     | .raw (.tuple _) => regW P ops draw S0 K r hs (j + 1) S1
     | _ => False
theorem regW_ok {P : Program} {ops : Array Oper} {draw : Bool} {S0 : AS} {K : AS → Prop} : ∀ (js : List (Nat × Bool)) (hs : List (Nat × OH)) (fr : Nat) (Sc : AS), regW P ops draw S0 K js hs fr Sc →
  ∃ hs' S' obs, regEv P (FnOK P) ops draw hs' S0 = some (S', obs) ∧ (∀ p ∈ obs, p) ∧ K S'
 | [], hs, fr, Sc, h => by
  unfold regW at h
  split at h
  ·next S' obs he => exact ⟨hs, S', obs, he, (obsP_iff h).1, (obsP_iff h).2⟩
  ·exact h.elim
 | (j, w) :: r, hs, fr, Sc, h => by
  unfold regW at h
  split at h
  ·exact h.elim
  split at h
  ·exact h.elim
  split at h
  ·exact h.elim
  split at h
  ·next b hb =>
   cases b
   ·exact regW_ok r _ _ _ h
   ·exact regW_ok r _ _ _ h
  ·exact regW_ok r _ _ _ h
  ·exact h.elim
/-- Operations one by one, the state told anew between them (never where the order is drawn). -/
def runM (P : Program) (F : FnRel) (ops : Array Oper) (hs : List (Nat × OH)) (mid : List (Nat × List WH)) : List Nat → AS → Option (AS × List Prop)
 | [], S => some (S, [])
 | i :: r, S =>
  match stepOp P F ops hs i (match mid.lookup i with | some ws => wkT ws S | none => S) with
  | some (S1, ob, _) =>
   match runM P F ops hs mid r S1 with
   | some (S2, obs) => some (S2, ob ++ obs)
   | none => none
  | none => none
theorem mid_ok {k : Nat} (mid : List (Nat × List WH)) (i : Nat) (S : AS) : Ent k S (match mid.lookup i with | some ws => wkT ws S | none => S) := by
 split
 ·exact wkT_ok _ _
 ·exact Ent.refl _
theorem runM_ok {P : Program} {ops : Array Oper} {hs : List (Nat × OH)} {mid : List (Nat × List WH)} {k : Nat} {Q : Exit → Act → World → Prop} : ∀ (L : List Nat) {S S' : AS} {obs : List Prop} {β : Nat → HE} {X : Nat → Prop} {a : Act} {w : World}, runM P (FnOK P) ops hs mid L S = some (S', obs) → (∀ p ∈ obs, p) → Rel S β X a w →
  (∀ a' w' β', Rel S' β' X a' w' → StepK k S.O S'.O β β' w w' → Q .normal a' w') → wpOps P ops Q L a w
 | [], S, S', obs, β, X, a, w, h, hob, hR, hQ => by
  simp only [runM, Option.some.injEq, Prod.mk.injEq] at h
  obtain ⟨rfl, -⟩ := h
  exact hQ a w β hR (StepK.refl _ _ _ _)
 | i :: r, S, S', obs, β, X, a, w, h, hob, hR, hQ => by
  unfold runM at h
  have hE := mid_ok (k := k) mid i S
  generalize (match mid.lookup i with | some ws => wkT ws S | none => S) = S0 at h hE
  obtain ⟨β0, hR0, hs0⟩ := hE β X a w hR
  split at h
  ·next S1 ob f h1 =>
   split at h
   ·next S2 obs2 h2 =>
    simp only [Option.some.injEq, Prod.mk.injEq] at h
    obtain ⟨rfl, rfl⟩ := h
    have hob1 : ∀ p ∈ ob, p := fun p hp => hob p (List.mem_append_left _ hp)
    have hob2 : ∀ p ∈ obs2, p := fun p hp => hob p (List.mem_append_right _ hp)
    unfold stepOp at h1
    simp only [wpOps]
    split at h1
    ·cases h1
    ·next o ho =>
     rw [ho]
     simp only
     split at h1
     ·next hdo =>
      have hd : ∀ d, o.dst = some d → d < S0.nt := fun d hd => by rw [hd] at hdo; simpa [dstOK] using hdo
      split at h1
      ·next hrun =>
       rw [wanted_true hR0 hrun]
       simp only [if_true]
       split at h1
       ·next e he =>
        simp only [Option.some.injEq, Prod.mk.injEq] at h1
        obtain ⟨rfl, rfl, -⟩ := h1
        refine .inl (act_ok hR0 he hob1 fun v w' β' hdone => ?_)
        exact runM_ok r h2 hob2 (rel_after hR0 hd hdone) fun a' w2 β2 hR2 hs2 => hQ a' w2 β2 hR2 (hs0.trans ((hdone.step.toK k).trans hs2))
       ·cases h1
      ·next hrun =>
       rw [wanted_true hR0 hrun]
       simp only [Bool.false_eq_true, if_false]
       simp only [Option.some.injEq, Prod.mk.injEq] at h1
       obtain ⟨rfl, rfl, -⟩ := h1
       exact runM_ok r h2 hob2 (rel_after (e := ⟨.raw undef, [], []⟩) hR0 hd ⟨.raw _, hR0.objs, Step.refl _ _ _⟩) fun a' w2 β2 hR2 hs2 => hQ a' w2 β2 hR2 (hs0.trans hs2)
      ·cases h1
     ·cases h1
   ·cases h
  ·cases h
mutual
def unifAV : AV → AV → List (Nat × Nat)
 | .ptr o _, .ptr o' _ => [(o, o')]
 | .rptr o _ _ _, .rptr o' _ _ _ => [(o, o')]
 | .own o _, .own o' _ => [(o, o')]
 | .sub o _ _ _, .sub o' _ _ _ => [(o, o')]
 | .agg l, .agg m => unifL l m
 | .tup l, .tup m => unifL l m
 | .fn _ l, .fn _ m => unifL l m
 | .meth _ l, .meth _ m => unifL l m
 | _, _ => []
def unifL : List AV → List AV → List (Nat × Nat)
 | a :: l, b :: m => unifAV a b ++ unifL l m
 | _, _ => []
end
def unifE (S : AS) : List (Nat × AV) → List (Nat × Nat)
 | [] => []
 | (t, x) :: r => unifAV x (S.E t) ++ unifE S r
def unifO (S : AS) (ρ : List (Nat × Nat)) : List (Nat × Ob) → List (Nat × Nat)
 | [] => []
 | (n, .box l) :: r => (match S.O (renOf ρ n) with | .box m => unifL l m | _ => []) ++ unifO S ρ r
 | _ :: r => unifO S ρ r
/-- Ways to tell slot `t` as the pattern wants it. -/
def fixW (S : AS) (t : Nat) (x : AV) : List WH :=
 match x with
 | .own n sz => [.nilrow t (900 + n) sz]
 | .d (.sl _) => .nild t :: (match S.E t with | .own o _ => [WH.freeze o] | .sub o _ _ _ => [WH.freeze o] | _ => [])
 | .d (.agg _) => (S.E t).names.map WH.freeze
 | .tup l => (match S.E t with | .tup m => (List.zip l m).flatMap (fun p => match p.1 with | .d _ => p.2.names.map WH.freeze | _ => []) | _ => [])
 | _ => []
def fixWs (S : AS) : List (Nat × AV) → List WH
 | [] => []
 | (t, x) :: r => fixW S t x ++ fixWs S r
/-- A nil slice within a struct, a tuple as plain data. -/
def nilsL (f : AV → AV) : List AV → List AV
 | [] => []
 | c :: r => f c :: nilsL f r
def nil1 : AV → AV
 | .raw (.slice none 0 0) => .d (.sl [])
 | x => x
def nil2 : AV → AV
 | .raw (.slice none 0 0) => .d (.sl [])
 | .agg cs => mkAgg (nilsL nil1 cs)
 | x => x
def nilsAV : AV → AV
 | .agg cs => mkAgg (nilsL nil1 cs)
 | .tup cs => .tup (nilsL nil2 cs)
 | x => x
section
variable {w : World} {M : Nat → Prop} {β : Nat → HE} {C : Nat → Prop}
theorem nilsL_get {f : AV → AV} {cs : List AV} {j : Nat} : (nilsL f cs)[j]? = (cs[j]?).map f := by
 induction cs generalizing j with
 | nil => rfl
 | cons c r ih =>
  cases j with
  | zero => rfl
  | succ j => simp only [nilsL, List.getElem?_cons_succ]; exact ih
theorem nilsL_len {f : AV → AV} {cs : List AV} : (nilsL f cs).length = cs.length := by
 induction cs with
 | nil => rfl
 | cons c r ih => simp [nilsL, ih]
theorem nil1_ok {x : AV} {v : Value} (h : RAV w M β C x v) : RAV w M β C (nil1 x) v := by
 unfold nil1
 split
 ·rw [h.raw_inv]; exact .d _ _ (.nil _ _)
 ·exact h
theorem nilsAgg_ok {cs : List AV} {v : Value} (h : RAV w M β C (.agg cs) v) : RAV w M β C (mkAgg (nilsL nil1 cs)) v := by
 cases h with
 | agg _ vs hl hr =>
  refine mkAgg_ok (by rw [nilsL_len]; exact hl) fun j y hj => ?_
  rw [nilsL_get] at hj
  cases hx : cs[j]? with
  | none => rw [hx] at hj; cases hj
  | some z => rw [hx] at hj; cases hj; exact nil1_ok (hr j z hx)
theorem nil2_ok {x : AV} {v : Value} (h : RAV w M β C x v) : RAV w M β C (nil2 x) v := by
 unfold nil2
 split
 ·rw [h.raw_inv]; exact .d _ _ (.nil _ _)
 ·exact nilsAgg_ok h
 ·exact h
theorem nilsAV_ok {x : AV} {v : Value} (h : RAV w M β C x v) : RAV w M β C (nilsAV x) v := by
 unfold nilsAV
 split
 ·exact nilsAgg_ok h
 ·next cs =>
  cases h with
  | tup _ vs hl hr =>
   refine .tup _ _ (by rw [nilsL_len]; exact hl) fun j y hj => ?_
   rw [nilsL_get] at hj
   cases hx : cs[j]? with
   | none => rw [hx] at hj; cases hj
   | some z => rw [hx] at hj; cases hj; exact nil2_ok (hr j z hx)
 ·exact h
end
def nilsAt (ts : List Nat) (S : AS) : AS := { S with E := fun t => if ts.contains t then nilsAV (S.E t) else S.E t }
theorem nilsAt_ok {k : Nat} (ts : List Nat) (S : AS) : Ent k S (nilsAt ts S) := fun β X a w hR => by
 refine ⟨β, ⟨hR.size, hR.defers, fun t => ?_, hR.objs⟩, StepK.refl _ _ _ _⟩
 show RAV w _ _ _ (if ts.contains t then nilsAV (S.E t) else S.E t) _
 split
 ·exact nilsAV_ok (hR.slots t)
 ·exact hR.slots t
/-- Slots whose pattern is wholly plain data, but for names. -/
def dataSlots : List (Nat × AV) → List Nat
 | [] => []
 | (t, .d (.agg _)) :: r => t :: dataSlots r
 | (t, .tup _) :: r => t :: dataSlots r
 | _ :: r => dataSlots r
/-- The state as the pattern wants it. -/
def fitS (ws : List WH) (S : AS) (s : St) : AS :=
 let S0 := wkT ws S
 let S1 := wkT (fixWs S0 s.E) S0
 nilsAt (dataSlots s.E) S1
theorem fitS_ok {k : Nat} (ws : List WH) (S : AS) (s : St) : Ent k S (fitS ws S s) := (wkT_ok _ _).trans ((wkT_ok _ _).trans (nilsAt_ok _ _))
theorem wkT_nt : ∀ (l : List WH) (S : AS), (wkT l S).nt = S.nt
 | [], S => rfl
 | x :: r, S => by
  unfold wkT
  split
  ·next S1 h2 =>
   rw [wkT_nt r]
   cases x <;> simp only [wkE] at h2 <;> (repeat' split at h2) <;> first | (cases h2; done) | (cases h2; rfl)
  ·exact wkT_nt r S
theorem fitS_nt (ws : List WH) (S : AS) (s : St) : (fitS ws S s).nt = S.nt := by
 show (wkT _ _).nt = S.nt
 rw [wkT_nt, wkT_nt]
def fitρ (ρ : List (Nat × Nat)) (S : AS) (s : St) : List (Nat × Nat) :=
 let r1 := ρ ++ unifE S s.E
 let r2 := r1 ++ unifO S r1 s.O
 r2 ++ unifO S r2 s.O
def fit (k : Nat) (ws : List WH) (ρ : List (Nat × Nat)) (S : AS) (s : St) : Option (List Prop) :=
 let S' := fitS ws S s
 entail k [] (fitρ ρ S' s) S' s
theorem fit_ok {k : Nat} {ws : List WH} {ρ : List (Nat × Nat)} {S : AS} {s : St} {obs : List Prop} (h : fit k ws ρ S s = some obs) (hob : ∀ p ∈ obs, p) : Ent k S (s.as S.nt) := by
 unfold fit at h
 have h1 := entail_ok h hob
 rw [fitS_nt] at h1
 exact (fitS_ok ws S s).trans h1

def LoopsS (P : Program) (k : Nat) (c : Code) (pre : St) (e : Exit) (post : St) (nt : Nat) : Prop := Loops P k c (pre.as nt) e (post.as nt)
def PassesS (P : Program) (k : Nat) (l : Nat) (c : Code) (pre : St) (e : Exit) (post : St) (nt : Nat) : Prop := Passes P k l c (pre.as nt) e (post.as nt)
def scopesIn : Code → List Code
 | .seq x y => scopesIn x ++ scopesIn y
 | .cond _ x y => scopesIn x ++ scopesIn y
 | .block _ c => scopesIn c
 | .scope c => c :: scopesIn c
 | .loop c => scopesIn c
 | .rangeFunc _ _ c d => scopesIn c ++ scopesIn d
 | _ => []
/-- What stands behind a label of a function's text. -/
def restOf (P : Program) (f : FuncId) (l : Nat) : Code :=
 match P.funcs[f]? with
 | some fn => match fn.body with
  | some c => match (scopesIn c).findSome? (fun s => findLabel s l) with | some x => x | none => .skip
  | none => .skip
 | none => .skip
def wpC (P : Program) (k : Nat) (h : Hn) : Code → List Sub → AS → (List Sub → Exit → AS → Prop) → Prop
 | .skip, m, S, K => K m .normal S
 | .label _, m, S, K => K m .normal S
 | .exit id, m, S, K => K m (.exit id) S
 | .goto l, m, S, K => K m (.goto l) S
 | .ret, m, S, K => K m .ret S
 | .region id ops draw, m, S, K =>
  let S1 := match h.W.lookup id with | some ws => wkT ws S | none => S
  let hs0 := hintsOf h.H id
  let gs := guardsOf ops.toList
  let ws := autoG hs0 gs (List.range ops.size)
  let hs1 := hs0 ++ autoH h hs0 0 ops.toList
  match (if draw then none else h.mid.lookup id) with
  | some md =>
   match runM P (FnOK P) ops (ws.map (fun p => (p.1, OH.val (.bool p.2))) ++ hs1) md (List.range ops.size) S1 with
   | some (S', obs) => obsP obs (K m .normal S')
   | none => False
  | none =>
  if h.chain && !h.free.contains id then
   match regEv P (FnOK P) ops draw (ws.map (fun p => (p.1, OH.val (.bool p.2))) ++ hs1) S1 with
   | some (S', obs) => obsP obs (K m .normal S')
   | none => False
  else regW P ops draw S1 (K m .normal) ws hs1 0 S1
 | .seq x y, m, S, K => wpC P k h x m S fun m1 e S1 => match e with
  | .normal => wpC P k h y m1 S1 K
  | e => K m1 e S1
 | .cond c x y, m, S, K => match S.ev c with
  | .d (.bool b) => condP b (wpC P k h x m S K) (wpC P k h y m S K)
  | _ => False
 | .block id c, m, S, K => wpC P k h c m S fun m1 e S1 => K m1 (blockExit id e) S1
 | .loop c, m, S, K => match m with
  | s :: r => match fit k s.ws s.ρ S s.pre with
   | some obs => obsP obs (LoopsS P k c s.pre s.e s.post S.nt ∧ K r s.e (s.post.as S.nt))
   | none => False
  | [] => False
 | .scope c, m, S, K => wpC P k h c m S fun m1 e S1 => match e with
  | .goto l => match m1 with
   | s :: r => match findLabel c l with
    | some rest => match fit k s.ws s.ρ S1 s.pre with
     | some obs => obsP obs (PassesS P k l rest s.pre s.e s.post S1.nt ∧ K r s.e (s.post.as S1.nt))
     | none => False
    | none => False
   | [] => False
  | e => K m1 e S1
 | _, _, _, _ => False
section
variable {P : Program} {k : Nat}
def Out (k : Nat) (S : AS) (β : Nat → HE) (X : Nat → Prop) (w : World) (K : List Sub → Exit → AS → Prop) (e : Exit) (a' : Act) (w' : World) : Prop :=
 ∃ m' S', K m' e S' ∧ ∃ β', Rel S' β' X a' w' ∧ StepK k S.O S'.O β β' w w'
theorem Out.of {S S1 : AS} {β β1 : Nat → HE} {X : Nat → Prop} {w w1 : World} {K : List Sub → Exit → AS → Prop} {e : Exit} {a' : Act} {w' : World} (h : StepK k S.O S1.O β β1 w w1) (g : Out k S1 β1 X w1 K e a' w') : Out k S β X w K e a' w' := by
 obtain ⟨m', S', h1, β', h2, h3⟩ := g
 exact ⟨m', S', h1, β', h2, h.trans h3⟩
theorem Passes.arrives {l : Nat} {c rest : Code} (hf : findLabel c l = some rest) (b : Frame) (kk : List Item) (cs : List Frame) : ∀ {S S' : AS} {e : Exit}, Passes P k l rest S e S' → ∀ β X a w, Rel S β X a w →
  ∃ e' a' w', (e' = e ∧ ∃ β', Rel S' β' X a' w' ∧ StepK k S.O S'.O β β' w w') ∧ Arrives P (lone (b.at a (.code rest :: .inScope c :: kk)) cs w) b kk cs e' a' w' := by
 have hg : gotoIn l (.inScope c :: kk) = some (.code rest :: .inScope c :: kk) := by simp [gotoIn, hf]
 intro S S' e h
 induction h with
 | @out S S' e h he =>
  intro β X a w hR
  obtain ⟨e', a', w', hq, harr⟩ := h β X a w hR b (.inScope c :: kk) cs
  refine ⟨e', a', w', hq, ?_⟩
  cases e' with
  | normal => exact Steps.trans harr (.one step_inScope)
  | exit id => exact fun k' hk => harr k' (by simp [exitTo, hk])
  | goto l' => exact absurd hq.1.symm (he l')
  | ret => exact harr
  | panic ch => exact harr
  | outgrown => exact harr
 | @next S S1 S' e h r ih =>
  intro β X a w hR
  obtain ⟨e', a', w', ⟨he', β', hR', hs⟩, harr⟩ := h β X a w hR b (.inScope c :: kk) cs
  subst he'
  obtain ⟨e2, a2, w2, ⟨he2, β2, hR2, hs2⟩, harr2⟩ := ih β' X a' w' hR'
  exact ⟨e2, a2, w2, ⟨he2, β2, hR2, hs.trans hs2⟩, .of_steps (harr _ hg) harr2⟩
theorem wpC_ok {h : Hn} : ∀ {c : Code} {m : List Sub} {S : AS} {K : List Sub → Exit → AS → Prop}, wpC P k h c m S K → ∀ β X a w, Rel S β X a w → c.wp P (Out k S β X w K) a w := by
 intro c
 induction c with
 | skip => intro m S K h β X a w hR; exact wp_skip ⟨m, S, h, β, hR, StepK.refl _ _ _ _⟩
 | label l => intro m S K h β X a w hR; exact wp_label ⟨m, S, h, β, hR, StepK.refl _ _ _ _⟩
 | exit id => intro m S K h β X a w hR; exact wp_exit ⟨m, S, h, β, hR, StepK.refl _ _ _ _⟩
 | goto l => intro m S K h β X a w hR; exact wp_goto ⟨m, S, h, β, hR, StepK.refl _ _ _ _⟩
 | ret => intro m S K h β X a w hR; exact wp_ret ⟨m, S, h, β, hR, StepK.refl _ _ _ _⟩
 | region id ops draw =>
  intro m S K hw β X a w hR
  have keyM : ∀ (S1 S' : AS) (hs' : List (Nat × OH)) (md : List (Nat × List WH)) (obs : List Prop), draw = false → Ent k S S1 → runM P (FnOK P) ops hs' md (List.range ops.size) S1 = some (S', obs) → obsP obs (K m .normal S') → (Code.region id ops draw).wp P (Out k S β X w K) a w := by
   intro S1 S' hs' md obs hdr hE h1 h2
   subst hdr
   obtain ⟨β1, hR1, hs1⟩ := hE β X a w hR
   refine wp_region ?_
   exact runM_ok (k := k) _ h1 (obsP_iff h2).1 hR1 fun a' w' β' hR' hst => ⟨m, S', (obsP_iff h2).2, β', hR', hs1.trans hst⟩
  have key : ∀ S1 : AS, Ent k S S1 → (∃ hs' S' obs, regEv P (FnOK P) ops draw hs' S1 = some (S', obs) ∧ (∀ p ∈ obs, p) ∧ K m .normal S') → (Code.region id ops draw).wp P (Out k S β X w K) a w := by
   rintro S1 hE ⟨hs', S', obs, h1, h2, h3⟩
   obtain ⟨β1, hR1, hs1⟩ := hE β X a w hR
   exact region_ok h1 h2 hR1 fun a' w' β' hR' hst => ⟨m, S', h3, β', hR', hs1.trans (hst.toK k)⟩
  simp only [wpC] at hw
  have hE : Ent k S (match h.W.lookup id with | some ws => wkT ws S | none => S) := by
   split
   ·exact wkT_ok _ _
   ·exact Ent.refl _
  generalize (match h.W.lookup id with | some ws => wkT ws S | none => S) = S1 at hw hE
  split at hw
  ·next md hmd =>
   have hdr : draw = false := by cases draw <;> simp_all
   split at hw
   ·next S' obs he => exact keyM S1 S' _ md obs hdr hE he hw
   ·exact hw.elim
  ·refine key S1 hE ?_
   split at hw
   ·split at hw
    ·next S' obs he => exact ⟨_, S', obs, he, (obsP_iff hw).1, (obsP_iff hw).2⟩
    ·exact hw.elim
   ·exact regW_ok _ _ _ _ hw
 | seq x y ihx ihy =>
  intro m S K hw β X a w hR
  simp only [wpC] at hw
  refine wp_seq (wp_mono (ihx hw β X a w hR) fun e a' w' ⟨m', S', h1, β', h2, h3⟩ => ?_)
  cases e with
  | normal => exact wp_mono (ihy h1 β' X a' w' h2) fun e2 a2 w2 g => g.of h3
  | _ => exact then_abrupt (by simp) ⟨m', S', h1, β', h2, h3⟩
 | cond c x y ihx ihy =>
  intro m S K hw β X a w hR
  simp only [wpC] at hw
  split at hw
  ·next b hb =>
   have h1 := ev_ok hR c
   rw [hb] at h1
   refine wp_cond h1.d_inv.bool_inv ?_
   cases b
   ·exact ihy hw β X a w hR
   ·exact ihx hw β X a w hR
  ·exact hw.elim
 | block id c ih =>
  intro m S K hw β X a w hR
  simp only [wpC] at hw
  refine wp_block (wp_mono (ih hw β X a w hR) fun e a' w' ⟨m', S', h1, h2⟩ => ?_)
  cases e with
  | exit id' =>
   simp only [Exit.inBlock, blockExit] at h1 ⊢
   split
   ·next he => rw [if_pos he] at h1; exact ⟨m', S', h1, h2⟩
   ·next he => rw [if_neg he] at h1; exact ⟨m', S', h1, h2⟩
  | _ => exact ⟨m', S', h1, h2⟩
 | loop c ih =>
  intro m S K hw β X a w hR
  simp only [wpC] at hw
  split at hw
  ·next s r =>
   split at hw
   ·next obs he =>
    obtain ⟨h1, h2, h3⟩ := obsP_iff hw
    obtain ⟨β1, hR1, hs1⟩ := fit_ok he h1 β X a w hR
    exact wp_mono (Loops.runs h2 β1 X a w hR1) fun e a' w' ⟨he, β2, hR2, hs2⟩ => he ▸ ⟨r, _, h3, β2, hR2, hs1.trans hs2⟩
   ·exact hw.elim
  ·exact hw.elim
 | scope c ih =>
  intro m S K hw β X a w hR b kk cs
  simp only [wpC] at hw
  obtain ⟨e, a1, w1, ⟨m', S', h1, β', h2, h3⟩, harr⟩ := ih hw β X a w hR b (.inScope c :: kk) cs
  cases e with
  | normal => exact ⟨.normal, a1, w1, ⟨m', S', h1, β', h2, h3⟩, .head step_scope (Steps.trans harr (.one step_inScope))⟩
  | exit id => exact ⟨.exit id, a1, w1, ⟨m', S', h1, β', h2, h3⟩, fun k' hk => .head step_scope (harr k' (by simp [exitTo, hk]))⟩
  | ret => exact ⟨_, a1, w1, ⟨m', S', h1, β', h2, h3⟩, .of_steps (.one step_scope) harr⟩
  | panic ch => exact ⟨_, a1, w1, ⟨m', S', h1, β', h2, h3⟩, .of_steps (.one step_scope) harr⟩
  | outgrown => exact ⟨_, a1, w1, ⟨m', S', h1, β', h2, h3⟩, .of_steps (.one step_scope) harr⟩
  | goto l =>
   simp only at h1
   split at h1
   ·next s r =>
    split at h1
    ·next rest hf =>
     split at h1
     ·next obs he =>
      obtain ⟨g1, g2, g3⟩ := obsP_iff h1
      obtain ⟨β1, hR1, hs1⟩ := fit_ok he g1 β' X a1 w1 h2
      obtain ⟨e2, a2, w2, ⟨he2, β2, hR2, hs2⟩, harr2⟩ := Passes.arrives hf b kk cs g2 β1 X a1 w1 hR1
      have hg : gotoIn l (.inScope c :: kk) = some (.code rest :: .inScope c :: kk) := by simp [gotoIn, hf]
      subst he2
      exact ⟨_, a2, w2, ⟨r, _, g3, β2, hR2, h3.trans (hs1.trans hs2)⟩, .of_steps (.head step_scope (harr _ hg)) harr2⟩
     ·exact h1.elim
    ·exact h1.elim
   ·exact h1.elim
 | rangeFunc f ts c d ihc ihd => intro m S K hw; simp only [wpC] at hw
 | refuse s => intro m S K hw; simp only [wpC] at hw

def finF (P : Program) (fn : Func) (k : Nat) (ws : List WH) (ρ : List (Nat × Nat)) (rv : AV) (outs : List Ob) (e : Exit) (S : AS) : Prop :=
 if okExit e = true then
  match resVs P S fn.results.toList with
  | none => False
  | some (l, o2) =>
   match fit k ws ρ { E := upd (fun _ => .dead) 0 (joined l), O := S.O, nt := 1 } ⟨[(0, rv)], numbered 0 outs⟩ with
   | none => False
   | some o3 => obsP (o2 ++ o3) True
 else False
def wpF (P : Program) (f : FuncId) (h : Hn) (subs : List Sub) (ws : List WH) (ρ : List (Nat × Nat)) (args : List AV) (ins : List Ob) (rv : AV) (outs : List Ob) : Prop :=
 match P.funcs[f]? with
 | none => False
 | some fn => match fn.body with
  | none => False
  | some c =>
   if (fn.name == "runtime.NumGoroutine") = false ∧ fn.results.toList.length ≤ 5 then
    wpC P ins.length h c subs { E := entryE args, O := Oof ins, nt := args.length + (fn.ntmps - args.length) } fun _ e S => finF P fn ins.length ws ρ rv outs e S
   else False
theorem fnOK_wp {f : FuncId} {h : Hn} {subs : List Sub} {ws : List WH} {ρ : List (Nat × Nat)} {args : List AV} {ins : List Ob} {rv : AV} {outs : List Ob} {p : Prop}
  (he : wpF P f h subs ws ρ args ins rv outs = p) (hp : p) : FnOK P f args ins rv outs := by
 subst he
 unfold wpF at hp
 split at hp
 ·exact hp.elim
 next fn hf =>
 split at hp
 ·exact hp.elim
 next c hc =>
 split at hp
 case isFalse => exact hp.elim
 next hname =>
 obtain ⟨hname, h5⟩ := hname
 refine ⟨⟨fn, hf, by simp [hc], hname⟩, fun w X β vs hO hvs => calls_of_wp hf hc ?_⟩
 obtain ⟨hlen, hvs⟩ := hvs
 have hR0 : Rel { E := entryE args, O := Oof ins, nt := args.length + (fn.ntmps - args.length) } β X { tmps := vs ++ Array.replicate (fn.ntmps - vs.size) undef, defers := [] } w := by
  refine ⟨by simp [hlen], rfl, fun t => ?_, hO⟩
  show RAV w _ _ _ (entryE args t) _
  unfold entryE
  split
  ·next x hx =>
   have hlt := (List.getElem?_eq_some_iff.1 hx).1
   have h1 := hvs t x hx
   have h2 : (vs ++ Array.replicate (fn.ntmps - vs.size) undef).getD t undef = vs.getD t undef := by
    simp only [Array.getD_eq_getD_getElem?]
    rw [Array.getElem?_append_left (by omega)]
   show RAV w _ _ _ x ((vs ++ Array.replicate (fn.ntmps - vs.size) undef).getD t undef)
   rw [h2]
   exact h1
  ·exact .dead _
 refine wp_mono (wpC_ok hp β X _ w hR0) fun e' a' w' ⟨m', S, hfin, β1, hR1, hs1⟩ => ?_
 unfold finF at hfin
 dsimp only at hfin
 split at hfin
 case isFalse => exact hfin.elim
 next hex =>
 split at hfin
 ·exact hfin.elim
 next l o2 hres =>
 split at hfin
 ·exact hfin.elim
 next o3 hent =>
 have hob := (obsP_iff hfin).1
 obtain ⟨us, k1, k2, k3, k4⟩ := resVs_ok hR1 hres fun p hp => hob p (List.mem_append_left _ hp)
 have hrun := results_of k1 h5 k3
 have hR2 : Rel { E := upd (fun _ => .dead) 0 (joined l), O := S.O, nt := 1 } β1 X { tmps := #[joinedV us], defers := [] } w' := by
  refine ⟨rfl, rfl, fun t => ?_, hR1.objs⟩
  by_cases ht : t = 0
  ·subst ht
   show RAV w' _ _ _ (upd (fun _ => .dead) 0 (joined l) 0) _
   rw [upd_same]
   exact joined_ok (k2.trans k1.symm) k4
  ·show RAV w' _ _ _ (upd (fun _ => .dead) 0 (joined l) t) _
   rw [upd_other _ _ ht]
   exact .dead _
 obtain ⟨β2, hR3, hs2⟩ := fit_ok hent (fun p hp => hob p (List.mem_append_right _ hp)) β1 X _ w' hR2
 have h0 : (St.as ⟨[(0, rv)], numbered 0 outs⟩ 1).O = Oof outs := by
  funext n
  show lookO (numbered 0 outs) n = _
  rw [numbered_look]
  simp
 have hAR : AR (Oof outs) β2 X w' rv (joinedV us) := by
  have := hR3.slots 0
  rw [h0] at this
  exact this
 have hObj : Objs (Oof outs) β2 X w' := by
  have := hR3.objs
  rw [h0] at this
  exact this
 have hstep := hs1.trans hs2
 have hst : Step (Oof ins) (Oof outs) β β2 w w' := by
  refine ⟨hstep.evo, fun o ho => ?_, hstep.new⟩
  have hlt : o < ins.length := by
   rcases Nat.lt_or_ge o ins.length with h | h
   ·exact h
   ·exfalso
    apply ho
    simp [Oof, List.getElem?_eq_none h]
  have := hstep.keep o hlt ho
  rw [h0] at this
  exact this
 have hdone : a'.defers = [] ∧ ∃ v, (results fn a'.tmps).run P w' = .ok v w' ∧ ∃ v' β', Ending.returned v = .returned v' ∧ AR (Oof outs) β' X w' rv v' ∧ Objs (Oof outs) β' X w' ∧ Step (Oof ins) (Oof outs) β β' w w' :=
  ⟨hR1.defers, _, hrun, _, β2, rfl, hAR, hObj, hst⟩
 cases e' with
 | normal => exact hdone
 | ret => exact hdone
 | _ => simp [okExit] at hex
def wpR (P : Program) (k : Nat) (c : Code) (nt : Nat) (h : Hn) (subs : List Sub) (ws : List WH) (ρ : List (Nat × Nat)) (pre : St) (e : Exit) (post : St) : Prop :=
 wpC P k h c subs (pre.as nt) fun _ e' S =>
  if exitEq e' e = true ∧ S.nt = nt then
   match fit k ws ρ S post with
   | none => False
   | some o => obsP o True
  else False
theorem round_wp {c : Code} {nt : Nat} {h : Hn} {subs : List Sub} {ws : List WH} {ρ : List (Nat × Nat)} {pre : St} {e : Exit} {post : St} {p : Prop}
  (he : wpR P k c nt h subs ws ρ pre e post = p) (hp : p) : Runs P k c (pre.as nt) e (post.as nt) := by
 subst he
 intro β X a w hR
 refine wp_mono (wpC_ok hp β X a w hR) fun e' a' w' ⟨m', S, hfin, β1, hR1, hs1⟩ => ?_
 dsimp only at hfin
 split at hfin
 case isFalse => exact hfin.elim
 next hex =>
 split at hfin
 ·exact hfin.elim
 next o hent =>
 obtain ⟨β2, hR3, hs2⟩ := fit_ok hent (obsP_iff hfin).1 β1 X a' w' hR1
 rw [hex.2] at hR3 hs2
 exact ⟨exitEq_eq hex.1, β2, hR3, hs1.trans hs2⟩
/-- Passes that are counted. -/
theorem passes_n {l : Nat} {c : Code} {I : Nat → AS} {e : Exit} {S' : AS} (he : ∀ l, e ≠ .goto l) (n : Nat) (i : Nat) (hi : i ≤ n) (h : ∀ j, i ≤ j → j < n → Runs P k c (I j) (.goto l) (I (j + 1))) (g : Runs P k c (I n) e S') : Passes P k l c (I i) e S' := by
 obtain ⟨d, rfl⟩ : ∃ d, n = i + d := ⟨n - i, by omega⟩
 induction d generalizing i with
 | zero => exact .out g he
 | succ d ih =>
  refine .next (h i (Nat.le_refl _) (by omega)) ?_
  exact ih (i + 1) (by omega) (fun j h1 h2 => h j (by omega) (by omega)) (by rw [show i + 1 + d = i + (d + 1) by omega]; exact g)
/-- Rounds that are counted: `n` of them, and the last way out. -/
theorem loops_n {c : Code} {I : Nat → AS} {e : Exit} {S' : AS} (he : e ≠ .normal) (n : Nat) (i : Nat) (hi : i ≤ n) (h : ∀ j, i ≤ j → j < n → Runs P k c (I j) .normal (I (j + 1))) (g : Runs P k c (I n) e S') : Loops P k c (I i) e S' := by
 obtain ⟨d, rfl⟩ : ∃ d, n = i + d := ⟨n - i, by omega⟩
 induction d generalizing i with
 | zero => exact .out g he
 | succ d ih =>
  refine .next (h i (Nat.le_refl _) (by omega)) ?_
  have := ih (i + 1) (by omega) (fun j h1 h2 => h j (by omega) (by omega)) (by rw [show i + 1 + d = i + (d + 1) by omega]; exact g)
  exact this
end
end Sx
end Go.Proofs.YtalpfhpeaaocmaaGreat
end
section
namespace Go.Proofs.YtalpfhpeaaocmaaGreat
namespace Sx
open Go.RowKit
theorem condP_dec {p : Prop} [Decidable p] {a b : Prop} (h : p → a) (g : ¬ p → b) : condP (decide p) a b := by
 by_cases hp : p
 ·simpa [condP, hp] using h hp
 ·simpa [condP, hp] using g hp
theorem condP_eq {x y : Int} {a b : Prop} (h : x = y → a) (g : x ≠ y → b) : condP (x == y) a b := by
 by_cases hp : x = y
 ·simpa [condP, hp] using h hp
 ·have : (x == y) = false := by simpa using hp
  rw [this]; exact g hp
theorem condP_ne {x y : Int} {a b : Prop} (h : x ≠ y → a) (g : x = y → b) : condP (x != y) a b := by
 by_cases hp : x = y
 ·have : (x != y) = false := by simpa using hp
  rw [this]; exact g hp
 ·have : (x != y) = true := by simpa using hp
  rw [this]; exact h hp
theorem condP_not {b : Bool} {p q : Prop} (h : condP b q p) : condP (!b) p q := by cases b <;> exact h
theorem fnOK_rv {P : Program} {f : FuncId} {a : List AV} {i : List Ob} {rv rv' : AV} {o : List Ob} (h : FnOK P f a i rv o) (e : rv = rv') : FnOK P f a i rv' o := e ▸ h
/-- An empty slice that came in may be nil, or not. -/
theorem fnOK_nil {P : Program} {f : FuncId} {rest : List AV} {ins : List Ob} {rv : AV} {outs : List Ob} (h1 : ∀ a c, FnOK P f (.raw (.slice a 0 c) :: rest) ins rv outs) : FnOK P f (.d (.sl []) :: rest) ins rv outs :=
 ⟨(h1 none 0).1, fun w X β vs hO hvs => by
  have h := hvs.2 0 _ rfl
  obtain ⟨a, c, e⟩ : ∃ a c, vs.getD 0 undef = .slice a 0 c := by
   have h2 := h.d_inv
   generalize vs.getD 0 undef = v at h2
   cases h2 with
   | nil a c => exact ⟨a, c, rfl⟩
   | sl es a c => exact ⟨some a, _, rfl⟩
  refine (h1 a c).2 w X β vs hO ⟨by simpa using hvs.1, fun j x hj => ?_⟩
  cases j with
  | zero => cases hj; rw [e]; exact .raw _
  | succ j => exact hvs.2 (j + 1) x hj⟩
theorem dbool {x y : Bool} (h : x = y) : AV.d (.bool x) = AV.d (.bool y) := by rw [h]
theorem dyes {p : Prop} [Decidable p] (h : p) : D.bool (decide p) = D.bool true := by simp [h]
theorem dno {p : Prop} [Decidable p] (h : ¬ p) : D.bool (decide p) = D.bool false := by simp [h]
theorem el_map {α : Type} {f : α → D} {l : List α} {i : Int} {j : Nat} {x : α} (h : l[j]? = some x) (hi : i = j) : (l.map f)[i.toNat]? = some (f x) := by
 subst hi; simp [h]
theorem map_of {α : Type} (f : α → D) (Q : α → Prop) : ∀ (es : List D), (∀ d ∈ es, ∃ x, d = f x ∧ Q x) → ∃ l : List α, es = l.map f ∧ ∀ x ∈ l, Q x
 | [], _ => ⟨[], rfl, by simp⟩
 | d :: r, h => by
  obtain ⟨x, rfl, hx⟩ := h d (by simp)
  obtain ⟨l, rfl, hl⟩ := map_of f Q r fun d hd => h d (by simp [hd])
  exact ⟨x :: l, rfl, by simpa using ⟨hx, hl⟩⟩
theorem ck1 {k : CK} {x : D} (h : ∃ ds, CK.hasL [k] ds ∧ (if false = true then x = .agg ds else ds = [x])) : k.has x := by
 obtain ⟨ds, h1, h2⟩ := h
 simp only [Bool.false_eq_true, if_false] at h2
 subst h2
 simp only [CK.hasL] at h1
 obtain ⟨d, l, h3, h4, rfl⟩ := h1
 simp only [List.cons.injEq, and_true] at h3
 exact h3 ▸ h4
theorem ckA {ks : List CK} {x : D} (h : ∃ ds, CK.hasL ks ds ∧ (if true = true then x = .agg ds else ds = [x])) : ∃ ds, x = .agg ds ∧ CK.hasL ks ds := by
 obtain ⟨ds, h1, h2⟩ := h
 simp only [if_true] at h2
 exact ⟨ds, h2, h1⟩
theorem hasL_cons {k : CK} {ks : List CK} {ds : List D} (h : CK.hasL (k :: ks) ds) : ∃ d l, ds = d :: l ∧ k.has d ∧ CK.hasL ks l := h
theorem hasL_nil {ds : List D} (h : CK.hasL [] ds) : ds = [] := h
theorem has_str {x : D} (h : CK.str.has x) : ∃ s, x = .str s ∧ s.length ≤ maxLen := h
theorem has_sl {ag : Bool} {e : List CK} {x : D} (h : (CK.sl ag e).has x) : ∃ es, x = .sl es ∧ es.length ≤ maxLen ∧ ∀ y ∈ es, ∃ cs, CK.hasL e cs ∧ (if ag then y = .agg cs else cs = [y]) := h
theorem has_int {k : IntKind} {x : D} (h : (CK.int k).has x) : ∃ n, x = .int k n ∧ k.min ≤ n ∧ n ≤ k.max := by
 obtain ⟨n, h1, h2⟩ := h
 simp only [Lit.wf, Bool.and_eq_true, decide_eq_true_eq] at h2
 exact ⟨n, h1, h2.1, h2.2⟩
theorem has_slOf {α : Type} {ag : Bool} {e : List CK} {x : D} (f : α → D) (Q : α → Prop) (h : (CK.sl ag e).has x) (g : ∀ y, (∃ cs, CK.hasL e cs ∧ (if ag = true then y = .agg cs else cs = [y])) → ∃ a, y = f a ∧ Q a) :
  ∃ l : List α, x = .sl (l.map f) ∧ l.length ≤ maxLen ∧ ∀ a ∈ l, Q a := by
 obtain ⟨es, rfl, h1, h2⟩ := has_sl h
 obtain ⟨l, rfl, h3⟩ := map_of f Q es fun d hd => g d (h2 d hd)
 exact ⟨l, rfl, by simpa using h1, h3⟩
theorem has_u8 {x : D} (h : (CK.int .u8).has x) : ∃ n, x = .int .u8 n ∧ 0 ≤ n ∧ n < 256 := by
 obtain ⟨n, h1, h2, h3⟩ := has_int h
 have a : IntKind.u8.min = 0 := by decide
 have b : IntKind.u8.max = 255 := by decide
 exact ⟨n, h1, by omega, by omega⟩
theorem has_u32 {x : D} (h : (CK.int .u32).has x) : ∃ n, x = .int .u32 n ∧ 0 ≤ n ∧ n < 4294967296 := by
 obtain ⟨n, h1, h2, h3⟩ := has_int h
 have a : IntKind.u32.min = 0 := by decide
 have b : IntKind.u32.max = 4294967295 := by decide
 exact ⟨n, h1, by omega, by omega⟩
end Sx
end Go.Proofs.YtalpfhpeaaocmaaGreat
namespace Go.Proofs.YtalpfhpeaaocmaaGreat.Sx
section
variable {p a b : Prop} {x y : Int} {c : Bool}
theorem zA [Decidable p] (h : p → a) (g : ¬p → b) : condP (decide p) a b := condP_dec h g
theorem zB (h : x = y → a) (g : x ≠ y → b) : condP (x == y) a b := condP_eq h g
theorem zC (h : x ≠ y → a) (g : x = y → b) : condP (x != y) a b := condP_ne h g
theorem zD [Decidable p] (h : p → b) (g : ¬p → a) : condP (!decide p) a b := condP_not (condP_dec h g)
theorem zE (h : x = y → b) (g : x ≠ y → a) : condP (!(x == y)) a b := condP_not (condP_eq h g)
theorem zF (h : c = true → b) (g : c = false → a) : condP (!c) a b := condP_not (condP_intro h g)
theorem zG (h : c = true → a) (g : c = false → b) : condP c a b := condP_intro h g
end
end Go.Proofs.YtalpfhpeaaocmaaGreat.Sx
end
section
namespace Go.Proofs.YtalpfhpeaaocmaaGreat.C04
open Sx Go.RowKit
def sAdd (a n : Int) : Int := (a + n) % 4294967296
def sDiff (a b : Int) : Int := (a - b + 2147483648) % 4294967296 - 2147483648
def sLess (a b : Int) : Bool := decide (sDiff a b < 0)
def sIn (a f n : Int) : Bool := decide (0 < n ∧ (a - f) % 4294967296 < n)
def sShort (n : Int) : Int := n % 4294967296
def sNear (n : Int) : Int := max 0 (min n 1099511627776)
def sLong (near a : Int) : Int :=
 let m := sNear near
 let n := m + sDiff a (sShort m)
 let n := if n < m - 2147483647 then n + 4294967296 else n
 if n < 0 then n + 4294967296 else n
def sAbs (n : Int) : Int := if n < 0 then -n else n
theorem tmod_round (x : Int) : x.tmod 4294967296 = if 0 ≤ x then x % 4294967296 else -((-x) % 4294967296) := by
 split
 ·next h => exact Int.tmod_eq_emod_of_nonneg h
 ·next h =>
  have := Int.neg_tmod (a := -x) (b := 4294967296)
  rw [Int.neg_neg] at this
  rw [this, Int.tmod_eq_emod_of_nonneg (by omega)]
end Go.Proofs.YtalpfhpeaaocmaaGreat.C04
end
section
namespace Go.Proofs.YtalpfhpeaaocmaaGreat.C04
open Sx Go.RowKit
def G1 : List (Nat × (List D → Option (AV × List Ob))) := [
 (58, fun | [.int _ a, .int _ n] => some (.d (.int .u32 (sAdd a n)), []) | _ => none),
 (113, fun | [.int _ a, .int _ b] => some (.d (.int .i64 (sDiff a b)), []) | _ => none),
 (114, fun | [.int _ n] => some (.d (.int .u32 (sShort n)), []) | _ => none)]
theorem diff9 (a b : Int) : FnOK Tryz.prog 113 ([.d (.int .u32 a), .d (.int .u32 b)]) ([]) (.d (.int .i64 (sDiff a b))) ([]) := by
 refine fnOK_wp (p := (vI (IntKind.i64.wrap (IntKind.i32.wrap (IntKind.u32.wrap (a - b)))) = vI (sDiff a b)) ∧ True) (h := {G := G1}) (subs := []) (ws := []) (ρ := []) (by kernel_rfl) ?_
 repeat' (with_reducible first|exact ⟨⟩|apply And.intro|(first|apply zA|apply zB|apply zC|apply zD|apply zE|apply zF|apply zG)<;>intro)
 all_goals (try simp only [AV.d.injEq, D.int.injEq, D.bool.injEq, true_and, and_true, decide_eq_true_eq, decide_eq_false_iff_not, decide_eq_decide])
 all_goals (try (first | exact diff9 _ _))
 all_goals (try simp only [IntKind.wrap_u32, IntKind.wrap_i32, IntKind.wrap_i64, tmod_round, sAdd, sDiff, sLess, sIn, sShort, sAbs, sNear, sLong] at *)
 all_goals (try simp only [decide_eq_true_eq, decide_eq_false_iff_not, decide_eq_decide, eq_comm (a := false), eq_comm (a := true), Int.not_lt, Int.not_le])
 all_goals first | omega | decide | (refine decide_eq_decide.2 ⟨?_, ?_⟩ <;> intros <;> omega) | ((repeat' split) <;> omega) | (constructor <;> intros <;> omega) | (first | exact diff9 _ _)
theorem short18 (n : Int) (h0 : -9223372036854775808 ≤ n) (h1 : n < 9223372036854775808) : FnOK Tryz.prog 114 ([.d (.int .i64 n)]) ([]) (.d (.int .u32 (sShort n))) ([]) := by
 refine fnOK_wp (p := (vW (IntKind.u32.wrap n) = vW (sShort n)) ∧ True) (h := {G := G1}) (subs := []) (ws := []) (ρ := []) (by kernel_rfl) ?_
 repeat' (with_reducible first|exact ⟨⟩|apply And.intro|(first|apply zA|apply zB|apply zC|apply zD|apply zE|apply zF|apply zG)<;>intro)
 all_goals (try simp only [AV.d.injEq, D.int.injEq, D.bool.injEq, true_and, and_true, decide_eq_true_eq, decide_eq_false_iff_not, decide_eq_decide])
 all_goals (try (first | exact diff9 _ _))
 all_goals (try simp only [IntKind.wrap_u32, IntKind.wrap_i32, IntKind.wrap_i64, tmod_round, sAdd, sDiff, sLess, sIn, sShort, sAbs, sNear, sLong] at *)
 all_goals (try simp only [decide_eq_true_eq, decide_eq_false_iff_not, decide_eq_decide, eq_comm (a := false), eq_comm (a := true), Int.not_lt, Int.not_le])
 all_goals first | omega | decide | (refine decide_eq_decide.2 ⟨?_, ?_⟩ <;> intros <;> omega) | ((repeat' split) <;> omega) | (constructor <;> intros <;> omega) | (first | exact diff9 _ _)
theorem long16 (near a : Int) (ha : 0 ≤ a) (ha' : a < 4294967296) : FnOK Tryz.prog 96 ([.d (.int .i64 near), .d (.int .u32 a)]) ([]) (.d (.int .i64 (sLong near a))) ([]) := by
 refine fnOK_wp (p := (FnOK Tryz.prog 114 [vI (max (0 : Int) (min near (1099511627776 : Int)))] [] (vW (sShort (max (0 : Int) (min near (1099511627776 : Int))))) []) ∧ (FnOK Tryz.prog 113 [vW a, vW (sShort (max (0 : Int) (min near (1099511627776 : Int))))] [] (vI (sDiff a (sShort (max (0 : Int) (min near (1099511627776 : Int)))))) []) ∧ (condP (decide (IntKind.i64.wrap (max (0 : Int) (min near (1099511627776 : Int)) + sDiff a (sShort (max (0 : Int) (min near (1099511627776 : Int))))) < IntKind.i64.wrap (IntKind.i64.wrap (max (0 : Int) (min near (1099511627776 : Int)) - (2147483648 : Int)) + (1 : Int)))) (condP (decide (IntKind.i64.wrap (IntKind.i64.wrap (max (0 : Int) (min near (1099511627776 : Int)) + sDiff a (sShort (max (0 : Int) (min near (1099511627776 : Int))))) + (4294967296 : Int)) < (0 : Int))) ((vI (IntKind.i64.wrap (IntKind.i64.wrap (IntKind.i64.wrap (max (0 : Int) (min near (1099511627776 : Int)) + sDiff a (sShort (max (0 : Int) (min near (1099511627776 : Int))))) + (4294967296 : Int)) + (4294967296 : Int))) = vI (sLong near a)) ∧ True) ((vI (IntKind.i64.wrap (IntKind.i64.wrap (max (0 : Int) (min near (1099511627776 : Int)) + sDiff a (sShort (max (0 : Int) (min near (1099511627776 : Int))))) + (4294967296 : Int))) = vI (sLong near a)) ∧ True)) (condP (decide (IntKind.i64.wrap (max (0 : Int) (min near (1099511627776 : Int)) + sDiff a (sShort (max (0 : Int) (min near (1099511627776 : Int))))) < (0 : Int))) ((vI (IntKind.i64.wrap (IntKind.i64.wrap (max (0 : Int) (min near (1099511627776 : Int)) + sDiff a (sShort (max (0 : Int) (min near (1099511627776 : Int))))) + (4294967296 : Int))) = vI (sLong near a)) ∧ True) ((vI (IntKind.i64.wrap (max (0 : Int) (min near (1099511627776 : Int)) + sDiff a (sShort (max (0 : Int) (min near (1099511627776 : Int)))))) = vI (sLong near a)) ∧ True)))) (h := {G := G1}) (subs := []) (ws := []) (ρ := []) (by kernel_rfl) ?_
 repeat' (with_reducible first|exact ⟨⟩|apply And.intro|(first|apply zA|apply zB|apply zC|apply zD|apply zE|apply zF|apply zG)<;>intro)
 all_goals (try simp only [AV.d.injEq, D.int.injEq, D.bool.injEq, true_and, and_true, decide_eq_true_eq, decide_eq_false_iff_not, decide_eq_decide])
 all_goals (try (first | exact diff9 _ _ | exact add7 _ _ | (refine short18 _ ?_ ?_ <;> omega) | (refine short18 _ ?_ ?_ <;> (simp only [IntKind.wrap_u32, IntKind.wrap_i32, IntKind.wrap_i64, tmod_round, sAdd, sDiff, sLess, sIn, sShort, sAbs, sNear, sLong]; (repeat' split) <;> omega))))
 all_goals (try simp only [IntKind.wrap_u32, IntKind.wrap_i32, IntKind.wrap_i64, tmod_round, sAdd, sDiff, sLess, sIn, sShort, sAbs, sNear, sLong] at *)
 all_goals (try simp only [decide_eq_true_eq, decide_eq_false_iff_not, decide_eq_decide, eq_comm (a := false), eq_comm (a := true), Int.not_lt, Int.not_le])
 all_goals first | omega | decide | (refine decide_eq_decide.2 ⟨?_, ?_⟩ <;> intros <;> omega) | ((repeat' split) <;> omega) | (constructor <;> intros <;> omega) | (first | exact diff9 _ _ | exact add7 _ _ | (refine short18 _ ?_ ?_ <;> omega) | (refine short18 _ ?_ ?_ <;> (simp only [IntKind.wrap_u32, IntKind.wrap_i32, IntKind.wrap_i64, tmod_round, sAdd, sDiff, sLess, sIn, sShort, sAbs, sNear, sLong]; (repeat' split) <;> omega)))
end Go.Proofs.YtalpfhpeaaocmaaGreat.C04
end
section
namespace Go.Proofs.YtalpfhpeaaocmaaGreat.C08
open Sx Go.RowKit
structure Rtt where
 s : Int
 v : Int
 k : Bool
 h : Int
def rOk (x : Rtt) : Prop := 0 ≤ x.s ∧ x.s ≤ 1048576 ∧ 0 ≤ x.v ∧ x.v ≤ 1048576 ∧ 0 ≤ x.h ∧ x.h ≤ 6
instance (x : Rtt) : Decidable (rOk x) := inferInstanceAs (Decidable (_ ∧ _))
def rCheck (x : Rtt) : Int := if rOk x then (if x.k = false ∧ ¬ (x.s = 0 ∧ x.v = 0) then 4 else 0) else 8
def rSample (x : Rtt) (n : Int) : Rtt :=
 if 0 ≤ n ∧ n ≤ 65536 ∧ rCheck x = 0 then
  (if x.k = false then ⟨8 * n, 2 * n, true, 0⟩ else ⟨max (x.s + (n - x.s / 8)) 0, x.v + (max (n - x.s / 8) (-(n - x.s / 8)) - x.v / 4), x.k, 0⟩)
 else x
def rExpire (x : Rtt) : Rtt := if rCheck x = 0 ∧ x.h < 6 then ⟨x.s, x.v, x.k, x.h + 1⟩ else x
def rWait (x : Rtt) : Int := if rCheck x = 0 then min ((if x.k = true then max (x.s / 8 + x.v) 2 else 8) * 2 ^ x.h.toNat) 64 else 8
def rNew : Rtt := ⟨0, 0, false, 0⟩
def rD (x : Rtt) : D := .agg [.int .i64 x.s, .int .i64 x.v, .bool x.k, .int .i64 x.h]
theorem check_ok {x : Rtt} : rCheck x = 0 ↔ rOk x ∧ (x.k = false → x.s = 0 ∧ x.v = 0) := by
 unfold rCheck
 by_cases h1 : rOk x
 ·rw [if_pos h1]
  by_cases h2 : x.k = false ∧ ¬ (x.s = 0 ∧ x.v = 0)
  ·rw [if_pos h2]
   constructor
   ·intro h; omega
   ·rintro ⟨-, h⟩; exact absurd (h h2.1) h2.2
  ·rw [if_neg h2]
   refine ⟨fun _ => ⟨h1, fun h => ?_⟩, fun _ => rfl⟩
   by_cases h3 : x.s = 0 ∧ x.v = 0
   ·exact h3
   ·exact absurd ⟨h, h3⟩ h2
 ·rw [if_neg h1]
  constructor
  ·intro h; omega
  ·rintro ⟨h, -⟩; exact absurd h h1
theorem check_8 {x : Rtt} (h : ¬ rOk x) : rCheck x = 8 := if_neg h
theorem check_4 {x : Rtt} (h : rOk x) (h2 : x.k = false) (h3 : ¬ (x.s = 0 ∧ x.v = 0)) : rCheck x = 4 := by unfold rCheck; rw [if_pos h, if_pos ⟨h2, h3⟩]
theorem sample_no {x : Rtt} {n : Int} (h : ¬ (0 ≤ n ∧ n ≤ 65536 ∧ rCheck x = 0)) : rSample x n = x := if_neg h
theorem sample_new {x : Rtt} {n : Int} (h : 0 ≤ n ∧ n ≤ 65536 ∧ rCheck x = 0) (hk : x.k = false) : rSample x n = ⟨8 * n, 2 * n, true, 0⟩ := by unfold rSample; rw [if_pos h, if_pos hk]
theorem sample_more {x : Rtt} {n : Int} (h : 0 ≤ n ∧ n ≤ 65536 ∧ rCheck x = 0) (hk : x.k = true) : rSample x n = ⟨max (x.s + (n - x.s / 8)) 0, x.v + (max (n - x.s / 8) (-(n - x.s / 8)) - x.v / 4), true, 0⟩ := by
 unfold rSample; rw [if_pos h, if_neg (by simp [hk]), hk]
theorem expire_yes {x : Rtt} (h : rCheck x = 0) (h6 : x.h < 6) : rExpire x = ⟨x.s, x.v, x.k, x.h + 1⟩ := if_pos ⟨h, h6⟩
theorem expire_no {x : Rtt} (h : ¬ (rCheck x = 0 ∧ x.h < 6)) : rExpire x = x := if_neg h
theorem wait_no {x : Rtt} (h : ¬ rCheck x = 0) : rWait x = 8 := if_neg h
def rBase (x : Rtt) : Int := if x.k = true then max (x.s / 8 + x.v) 2 else 8
theorem wait_yes {x : Rtt} (h : rCheck x = 0) : rWait x = min (rBase x * 2 ^ x.h.toNat) 64 := if_pos h
theorem base_bd {x : Rtt} (h : rCheck x = 0) : 2 ≤ rBase x ∧ rBase x ≤ 1179648 := by
 have := (check_ok.1 h).1
 unfold rOk at this
 unfold rBase
 split <;> omega
theorem pow_bd {h : Int} (h0 : 0 ≤ h) (h6 : h ≤ 6) : 1 ≤ (2 : Int) ^ h.toNat ∧ (2 : Int) ^ h.toNat ≤ 64 := by
 obtain ⟨m, rfl⟩ := Int.eq_ofNat_of_zero_le h0
 have : m = 0 ∨ m = 1 ∨ m = 2 ∨ m = 3 ∨ m = 4 ∨ m = 5 ∨ m = 6 := by omega
 rcases this with rfl | rfl | rfl | rfl | rfl | rfl | rfl <;> decide
theorem mul_bd {a b : Int} (a0 : 2 ≤ a) (a1 : a ≤ 1179648) (b0 : 1 ≤ b) (b1 : b ≤ 64) : 2 ≤ a * b ∧ a * b ≤ 75497472 := by
 constructor
 ·have := Int.mul_le_mul a0 b0 (by omega) (by omega); omega
 ·have := Int.mul_le_mul a1 b1 (by omega) (by omega); omega
theorem wait_bd (x : Rtt) : 2 ≤ rWait x ∧ rWait x ≤ 64 := by
 by_cases h : rCheck x = 0
 ·rw [wait_yes h]
  have hb := base_bd h
  have ho := (check_ok.1 h).1
  unfold rOk at ho
  have hp := pow_bd ho.2.2.2.2.1 ho.2.2.2.2.2
  have := mul_bd hb.1 hb.2 hp.1 hp.2
  omega
 ·rw [wait_no h]; omega
theorem sample_ok {x : Rtt} {n : Int} (h : rCheck x = 0) : rCheck (rSample x n) = 0 := by
 by_cases hn : 0 ≤ n ∧ n ≤ 65536 ∧ rCheck x = 0
 ·have ho := (check_ok.1 h).1
  unfold rOk at ho
  cases hk : x.k
  ·rw [sample_new hn hk, check_ok]
   refine ⟨?_, by simp⟩
   unfold rOk; dsimp only; omega
  ·rw [sample_more hn hk, check_ok]
   refine ⟨?_, by simp⟩
   unfold rOk; dsimp only; omega
 ·rw [sample_no hn]; exact h
theorem expire_ok {x : Rtt} (h : rCheck x = 0) : rCheck (rExpire x) = 0 := by
 by_cases h6 : x.h < 6
 ·rw [expire_yes h h6]
  have ho := check_ok.1 h
  rw [check_ok]
  unfold rOk at ho ⊢
  dsimp only
  exact ⟨by omega, ho.2⟩
 ·rw [expire_no (by omega)]; exact h
end Go.Proofs.YtalpfhpeaaocmaaGreat.C08
end
section
namespace Go.Proofs.YtalpfhpeaaocmaaGreat.C08
open Sx Go.RowKit
def G1 : List (Nat × (List D → Option (AV × List Ob))) := [
 (98, fun | [.int _ n, .int _ m] => some (.d (.bool (decide (0 ≤ n ∧ n ≤ m))), []) | _ => none),
 (70, fun | [.agg [.int _ a, .int _ b, .bool k, .int _ h]] => some (.d (.int .i64 (rCheck ⟨a, b, k, h⟩)), []) | _ => none),
 (99999, fun | [.agg [.int _ a, .int _ b, .bool k, .int _ h]] => some (.d (.int .i64 (rCheck ⟨a, b, k, h⟩)), []) | _ => none),
 (46, fun | [.agg [.int _ a, .int _ b, .bool k, .int _ h]] => some (.d (.int .i64 (rWait ⟨a, b, k, h⟩)), []) | _ => none),
 (99999, fun | [.agg [.int _ a, .int _ b, .bool k, .int _ h]] => some (.d (.int .i64 (rWait ⟨a, b, k, h⟩)), []) | _ => none),
 (48, fun | [.agg [.int _ a, .int _ b, .bool k, .int _ h]] => some (.d (rD (rExpire ⟨a, b, k, h⟩)), []) | _ => none),
 (99999, fun | [.agg [.int _ a, .int _ b, .bool k, .int _ h]] => some (.d (rD (rExpire ⟨a, b, k, h⟩)), []) | _ => none),
 (90, fun | [.agg [.int _ a, .int _ b, .bool k, .int _ h], .int _ n] => some (.d (rD (rSample ⟨a, b, k, h⟩ n)), []) | _ => none),
 (99999, fun | [.agg [.int _ a, .int _ b, .bool k, .int _ h], .int _ n] => some (.d (rD (rSample ⟨a, b, k, h⟩ n)), []) | _ => none),
 (42, fun _ => some (.d (rD rNew), []))]
theorem in19 (n m : Int) : FnOK Tryz.prog 98 ([.d (.int .i64 n), .d (.int .i64 m)]) ([]) (.d (.bool (decide (0 ≤ n ∧ n ≤ m)))) ([]) := by
 refine fnOK_wp (p := condP (decide (n ≥ (0 : Int))) ((D.bool (decide (n ≥ (0 : Int))) = D.bool true) ∧ (vB (decide (n ≤ m)) = vB (decide ((0 : Int) ≤ n ∧ n ≤ m))) ∧ True) ((D.bool (decide (n ≥ (0 : Int))) = D.bool false) ∧ (vB false = vB (decide ((0 : Int) ≤ n ∧ n ≤ m))) ∧ True)) (h := {}) (subs := []) (ws := []) (ρ := []) (by kernel_rfl) ?_
 repeat' (with_reducible first|exact ⟨⟩|apply And.intro|(first|apply zA|apply zB|apply zC|apply zD|apply zE|apply zF|apply zG)<;>intro)
 all_goals first | exact dyes (by assumption) | exact dno (by assumption) | (refine dbool ?_; simp only [decide_eq_decide]; omega) | (refine dbool (decide_eq_false ?_).symm; omega)
theorem check8 (x : Rtt) : FnOK Tryz.prog 70 ([.d (rD x)]) ([]) (.d (.int .i64 (rCheck x))) ([]) := by
 refine fnOK_wp (p := condP (!decide ((0 : Int) ≤ x.s ∧ x.s ≤ (1048576 : Int))) ((FnOK Tryz.prog 98 [vI x.s, vI 1048576] [] (vB (decide ((0 : Int) ≤ x.s ∧ x.s ≤ (1048576 : Int)))) []) ∧ ((D.bool !decide ((0 : Int) ≤ x.s ∧ x.s ≤ (1048576 : Int))) = D.bool true) ∧ (rf (D.bool true)) ∧ (vI 8 = vI (rCheck x)) ∧ True) (condP (!decide ((0 : Int) ≤ x.v ∧ x.v ≤ (1048576 : Int))) ((FnOK Tryz.prog 98 [vI x.s, vI 1048576] [] (vB (decide ((0 : Int) ≤ x.s ∧ x.s ≤ (1048576 : Int)))) []) ∧ ((D.bool !decide ((0 : Int) ≤ x.s ∧ x.s ≤ (1048576 : Int))) = D.bool false) ∧ (FnOK Tryz.prog 98 [vI x.v, vI 1048576] [] (vB (decide ((0 : Int) ≤ x.v ∧ x.v ≤ (1048576 : Int)))) []) ∧ ((D.bool !decide ((0 : Int) ≤ x.v ∧ x.v ≤ (1048576 : Int))) = D.bool true) ∧ (vI 8 = vI (rCheck x)) ∧ True) ((FnOK Tryz.prog 98 [vI x.s, vI 1048576] [] (vB (decide ((0 : Int) ≤ x.s ∧ x.s ≤ (1048576 : Int)))) []) ∧ ((D.bool !decide ((0 : Int) ≤ x.s ∧ x.s ≤ (1048576 : Int))) = D.bool false) ∧ (FnOK Tryz.prog 98 [vI x.v, vI 1048576] [] (vB (decide ((0 : Int) ≤ x.v ∧ x.v ≤ (1048576 : Int)))) []) ∧ ((D.bool !decide ((0 : Int) ≤ x.v ∧ x.v ≤ (1048576 : Int))) = D.bool false) ∧ (FnOK Tryz.prog 98 [vI x.h, vI 6] [] (vB (decide ((0 : Int) ≤ x.h ∧ x.h ≤ (6 : Int)))) []) ∧ (condP (!decide ((0 : Int) ≤ x.h ∧ x.h ≤ (6 : Int))) ((vI 8 = vI (rCheck x)) ∧ True) (condP (!x.k) (((D.bool !x.k) = D.bool true) ∧ (condP (!(x.s == (0 : Int) && (x.v == (0 : Int) && (x.k == false && (x.h == x.h && true))))) ((vI 4 = vI (rCheck x)) ∧ True) ((vI 0 = vI (rCheck x)) ∧ True))) (((D.bool !x.k) = D.bool false) ∧ (vI 0 = vI (rCheck x)) ∧ True)))))) (h := {G := G1}) (subs := []) (ws := []) (ρ := []) (by kernel_rfl) ?_
 repeat' (with_reducible first|exact ⟨⟩|apply And.intro|(first|apply zA|apply zB|apply zC|apply zD|apply zE|apply zF|apply zG)<;>intro)
 all_goals first | exact in19 _ _ | skip
 all_goals (try simp only [AV.d.injEq, D.int.injEq, D.bool.injEq, D.agg.injEq, List.cons.injEq, true_and, and_true, decide_eq_true_eq, decide_eq_false_iff_not, Bool.and_eq_true, Bool.and_eq_false_imp, beq_iff_eq, Bool.not_eq_true', Bool.not_eq_false', beq_self_eq_true, Bool.not_eq_true, Bool.not_eq_false] at *)
 all_goals first | assumption | rfl | omega | exact (check_8 (by unfold rOk; omega)).symm | exact (check_ok.2 ⟨by unfold rOk; omega, by simp_all⟩).symm | exact (check_4 (by unfold rOk; omega) (by simp_all) (by simp_all)).symm | (simp_all; done) | skip
theorem expire12 (x : Rtt) : FnOK Tryz.prog 48 ([.d (rD x)]) ([]) (.d (rD (rExpire x))) ([]) := by
 refine fnOK_wp (p := condP (rCheck x == (0 : Int)) ((FnOK Tryz.prog 70 [AV.d (.agg [D.int .i64 x.s, D.int .i64 x.v, D.bool x.k, D.int .i64 x.h])] [] (AV.d (.int .i64 (rCheck x))) []) ∧ ((D.bool (rCheck x == (0 : Int)) = D.bool true) ∧ (condP (decide (x.h < (6 : Int))) ((AV.d (.agg [D.int .i64 x.s, D.int .i64 x.v, D.bool x.k, D.int .i64 (IntKind.i64.wrap (x.h + (1 : Int)))]) = AV.d (.agg [D.int .i64 (rExpire x).s, D.int .i64 (rExpire x).v, D.bool (rExpire x).k, D.int .i64 (rExpire x).h])) ∧ (True)) ((AV.d (.agg [D.int .i64 x.s, D.int .i64 x.v, D.bool x.k, D.int .i64 x.h]) = AV.d (.agg [D.int .i64 (rExpire x).s, D.int .i64 (rExpire x).v, D.bool (rExpire x).k, D.int .i64 (rExpire x).h])) ∧ (True))))) ((FnOK Tryz.prog 70 [AV.d (.agg [D.int .i64 x.s, D.int .i64 x.v, D.bool x.k, D.int .i64 x.h])] [] (AV.d (.int .i64 (rCheck x))) []) ∧ ((D.bool (rCheck x == (0 : Int)) = D.bool false) ∧ ((AV.d (.agg [D.int .i64 x.s, D.int .i64 x.v, D.bool x.k, D.int .i64 x.h]) = AV.d (.agg [D.int .i64 (rExpire x).s, D.int .i64 (rExpire x).v, D.bool (rExpire x).k, D.int .i64 (rExpire x).h])) ∧ (True))))) (h := {G := G1}) (subs := []) (ws := []) (ρ := []) (by kernel_rfl) ?_
 have hy := fun (h : rCheck x = 0) (h6 : x.h < 6) => expire_yes h h6
 have hn := fun (h : ¬ (rCheck x = 0 ∧ x.h < 6)) => expire_no h
 have hw : rCheck x = 0 → IntKind.i64.wrap (x.h + 1) = x.h + 1 := fun h => by
  have := (check_ok.1 h).1; unfold rOk at this; rw [IntKind.wrap_i64]; omega
 repeat' (with_reducible first|exact ⟨⟩|apply And.intro|(first|apply zA|apply zB|apply zC|apply zD|apply zE|apply zF|apply zG)<;>intro)
 all_goals first | exact check8 _ | (rw [hy (by assumption) (by assumption), hw (by assumption)]; done) | (rw [hn (by omega)]; done) | exact dyes (by assumption) | exact dno (by assumption) | (refine congrArg D.bool ?_; simp [*]; done) | skip
theorem rDeq {a b h : Int} {k : Bool} {y : Rtt} (e1 : a = y.s) (e2 : b = y.v) (e3 : k = y.k) (e4 : h = y.h) : AV.d (.agg [D.int .i64 a, D.int .i64 b, D.bool k, D.int .i64 h]) = AV.d (rD y) := by rw [e1, e2, e3, e4]; rfl
theorem tdivp {a b : Int} (h : 0 ≤ a) : a.tdiv b = a / b := Int.tdiv_eq_ediv_of_nonneg h
theorem sample16 (x : Rtt) (n : Int) : FnOK Tryz.prog 90 ([.d (rD x), .d (.int .i64 n)]) ([]) (.d (rD (rSample x n))) ([]) := by
 refine fnOK_wp (p := condP (!decide ((0 : Int) ≤ n ∧ n ≤ (65536 : Int))) ((FnOK Tryz.prog 98 [AV.d (.int .i64 n), AV.d (.int .i64 (65536 : Int))] [] (AV.d (.bool (decide ((0 : Int) ≤ n ∧ n ≤ (65536 : Int))))) []) ∧ (((D.bool !decide ((0 : Int) ≤ n ∧ n ≤ (65536 : Int))) = D.bool true) ∧ ((AV.d (.agg [D.int .i64 x.s, D.int .i64 x.v, D.bool x.k, D.int .i64 x.h]) = AV.d (.agg [D.int .i64 (rSample x n).s, D.int .i64 (rSample x n).v, D.bool (rSample x n).k, D.int .i64 (rSample x n).h])) ∧ (True)))) ((FnOK Tryz.prog 98 [AV.d (.int .i64 n), AV.d (.int .i64 (65536 : Int))] [] (AV.d (.bool (decide ((0 : Int) ≤ n ∧ n ≤ (65536 : Int))))) []) ∧ (((D.bool !decide ((0 : Int) ≤ n ∧ n ≤ (65536 : Int))) = D.bool false) ∧ ((FnOK Tryz.prog 70 [AV.d (.agg [D.int .i64 x.s, D.int .i64 x.v, D.bool x.k, D.int .i64 x.h])] [] (AV.d (.int .i64 (rCheck x))) []) ∧ (condP (rCheck x != (0 : Int)) ((AV.d (.agg [D.int .i64 x.s, D.int .i64 x.v, D.bool x.k, D.int .i64 x.h]) = AV.d (.agg [D.int .i64 (rSample x n).s, D.int .i64 (rSample x n).v, D.bool (rSample x n).k, D.int .i64 (rSample x n).h])) ∧ (True)) (condP (!x.k) (((2 : Int) ≠ (0 : Int)) ∧ ((AV.d (.agg [D.int .i64 (IntKind.i64.wrap ((8 : Int) * n)), D.int .i64 (IntKind.i64.wrap ((IntKind.i64.wrap ((4 : Int) * n)).tdiv (2 : Int))), D.bool true, D.int .i64 (0 : Int)]) = AV.d (.agg [D.int .i64 (rSample x n).s, D.int .i64 (rSample x n).v, D.bool (rSample x n).k, D.int .i64 (rSample x n).h])) ∧ (True))) (((8 : Int) ≠ (0 : Int)) ∧ (((4 : Int) ≠ (0 : Int)) ∧ ((AV.d (.agg [D.int .i64 (max (IntKind.i64.wrap (x.s + IntKind.i64.wrap (n - IntKind.i64.wrap (x.s.tdiv (8 : Int))))) (0 : Int)), D.int .i64 (IntKind.i64.wrap (x.v + IntKind.i64.wrap (max (IntKind.i64.wrap (n - IntKind.i64.wrap (x.s.tdiv (8 : Int)))) (IntKind.i64.wrap ((0 : Int) - IntKind.i64.wrap (n - IntKind.i64.wrap (x.s.tdiv (8 : Int))))) - IntKind.i64.wrap (x.v.tdiv (4 : Int))))), D.bool x.k, D.int .i64 (0 : Int)]) = AV.d (.agg [D.int .i64 (rSample x n).s, D.int .i64 (rSample x n).v, D.bool (rSample x n).k, D.int .i64 (rSample x n).h])) ∧ (True)))))))))) (h := {G := G1}) (subs := []) (ws := []) (ρ := []) (by kernel_rfl) ?_
 repeat' (with_reducible first|exact ⟨⟩|apply And.intro|(first|apply zA|apply zB|apply zC|apply zD|apply zE|apply zF|apply zG)<;>intro)
 all_goals first | exact in19 _ _ | exact check8 _ | exact check9 _ | rfl | exact dyes (by assumption) | exact dno (by assumption) | (exact congrArg D.bool (by simp [*])) | decide | (rw [sample_no (fun h => by have := h.2.2; omega)]; done) | skip
 rotate_right 1
 ·rename_i h1 h2 h3
  rw [sample_new ⟨h1.1, h1.2, h2⟩ (by simpa using h3)]
  refine rDeq ?_ ?_ rfl rfl
  ·rw [IntKind.wrap_i64]; dsimp only; omega
  ·rw [IntKind.wrap_i64, IntKind.wrap_i64, tdivp (by omega)]; dsimp only; omega
 ·rename_i h1 h2 h3
  have ho := (check_ok.1 h2).1
  unfold rOk at ho
  have e1 : IntKind.i64.wrap (x.s.tdiv 8) = x.s / 8 := by rw [tdivp ho.1, IntKind.wrap_i64]; omega
  have e2 : IntKind.i64.wrap (x.v.tdiv 4) = x.v / 4 := by rw [tdivp ho.2.2.1, IntKind.wrap_i64]; omega
  have e3 : IntKind.i64.wrap (n - x.s / 8) = n - x.s / 8 := by rw [IntKind.wrap_i64]; omega
  have e4 : IntKind.i64.wrap (0 - (n - x.s / 8)) = -(n - x.s / 8) := by rw [IntKind.wrap_i64]; omega
  rw [sample_more ⟨h1.1, h1.2, h2⟩ (by simpa using h3), e1, e2, e3, e4]
  refine rDeq ?_ ?_ (by simpa using h3) rfl
  ·rw [IntKind.wrap_i64]; dsimp only; omega
  ·rw [IntKind.wrap_i64, IntKind.wrap_i64]; dsimp only; omega
theorem wait10 (x : Rtt) : FnOK Tryz.prog 46 ([.d (rD x)]) ([]) (.d (.int .i64 (rWait x))) ([]) := by
 refine fnOK_wp (p := (FnOK Tryz.prog 70 [AV.d (rD x)] [] (vI (rCheck x)) []) ∧ (condP (rCheck x != (0 : Int)) ((vI 8 = vI (rWait x)) ∧ True) (condP (x.k) (((8 : Int) ≠ (0 : Int)) ∧ ((0 : Int) ≤ x.h) ∧ (vI (min (IntKind.i64.wrap (max (IntKind.i64.wrap (IntKind.i64.wrap (x.s.tdiv (8 : Int)) + x.v)) (2 : Int) * (2 : Int) ^ min x.h.toNat 64)) (64 : Int)) = vI (rWait x)) ∧ True) (((0 : Int) ≤ x.h) ∧ (vI (min (IntKind.i64.wrap ((8 : Int) * (2 : Int) ^ min x.h.toNat 64)) (64 : Int)) = vI (rWait x)) ∧ True)))) (h := {G := G1}) (subs := []) (ws := []) (ρ := []) (by kernel_rfl) ?_
 refine ⟨check8 _, condP_ne (fun h => ?_) (fun h => ?_)⟩
 ·rw [wait_no h]; exact ⟨rfl, trivial⟩
 ·have ho := (check_ok.1 h).1
  have hb := base_bd h
  unfold rOk at ho
  have hp := pow_bd ho.2.2.2.2.1 ho.2.2.2.2.2
  have hm := mul_bd hb.1 hb.2 hp.1 hp.2
  have e0 : min x.h.toNat 64 = x.h.toNat := by omega
  have e1 : IntKind.i64.wrap (x.s.tdiv 8) = x.s / 8 := by rw [tdivp ho.1, IntKind.wrap_i64]; omega
  have e2 : IntKind.i64.wrap (x.s / 8 + x.v) = x.s / 8 + x.v := by rw [IntKind.wrap_i64]; omega
  have e3 : IntKind.i64.wrap (rBase x * 2 ^ x.h.toNat) = rBase x * 2 ^ x.h.toNat := by rw [IntKind.wrap_i64]; omega
  rw [wait_yes h, e0, e1, e2]
  refine condP_intro (fun hk => ⟨by decide, ho.2.2.2.2.1, ?_, trivial⟩) (fun hk => ⟨ho.2.2.2.2.1, ?_, trivial⟩)
  ·have : max (x.s / 8 + x.v) 2 = rBase x := by unfold rBase; rw [if_pos hk]
   rw [this, e3]
  ·have : 8 = rBase x := by unfold rBase; rw [if_neg (by simp [hk])]
   rw [this, e3]
def rB (x : Rtt) : Ob := .box [.d (.int .i64 x.s), .d (.int .i64 x.v), .d (.bool x.k), .d (.int .i64 x.h)]
theorem new18  : FnOK Tryz.prog 42 ([]) ([]) (.d (rD rNew)) ([]) := by
 refine fnOK_wp (p := (rf (AV.d (.agg [D.int .i64 0, D.int .i64 0, D.bool false, D.int .i64 0]))) ∧ True) (h := {}) (subs := []) (ws := []) (ρ := []) (by kernel_rfl) ?_
 exact ⟨rfl, trivial⟩
end Go.Proofs.YtalpfhpeaaocmaaGreat.C08
end
section
namespace Go.Proofs.YtalpfhpeaaocmaaGreat.C10
open Sx Go.RowKit
structure Aim where
 w : Int
 t : Int
 p : Int
structure Act where
 k : Int
 n : Int
def aOk (x : Aim) : Prop := 48 ≤ x.w ∧ x.w ≤ 4096 ∧ 48 ≤ x.t ∧ x.t ≤ 4096 ∧ 0 ≤ x.p ∧ x.p < x.w
instance (x : Aim) : Decidable (aOk x) := inferInstanceAs (Decidable (_ ∧ _))
def aCheck (x : Aim) : Int := if aOk x then 0 else 8
def aGrow (x : Aim) (n : Int) : Aim := ⟨min (x.w + n) 4096, x.t, x.p⟩
def aAcked (x : Aim) (n : Int) : Aim :=
 if 1 ≤ n ∧ n ≤ 4096 ∧ aCheck x = 0 then
  (if x.w < x.t then aGrow x (min n 48) else if x.p + n < x.w then ⟨x.w, x.t, x.p + n⟩ else aGrow ⟨x.w, x.t, 0⟩ 48)
 else x
def aHalf (x : Aim) : Aim := ⟨max (x.w / 2) 96, max (x.w / 2) 96, 0⟩
def aLost (x : Aim) : Aim := if aCheck x = 0 then aHalf x else x
def aExpired (x : Aim) : Aim := if aCheck x = 0 then ⟨48, max (x.w / 2) 96, 0⟩ else x
def aFree (x : Aim) (f : Int) : Int := if aCheck x = 0 then max (x.w - max f 0) 0 else 0
def aNew : Aim := ⟨96, 1024, 0⟩
def aD (x : Aim) : D := .agg [.int .i64 x.w, .int .i64 x.t, .int .i64 x.p]
theorem check_iff {x : Aim} : aCheck x = 0 ↔ aOk x := by
 unfold aCheck
 by_cases h : aOk x
 ·rw [if_pos h]; exact ⟨fun _ => h, fun _ => rfl⟩
 ·rw [if_neg h]; exact ⟨fun h => by omega, fun g => absurd g h⟩
theorem check_8 {x : Aim} (h : ¬ aOk x) : aCheck x = 8 := if_neg h
theorem acked_no {x : Aim} {n : Int} (h : ¬ (1 ≤ n ∧ n ≤ 4096 ∧ aCheck x = 0)) : aAcked x n = x := if_neg h
theorem acked_fast {x : Aim} {n : Int} (h : 1 ≤ n ∧ n ≤ 4096 ∧ aCheck x = 0) (g : x.w < x.t) : aAcked x n = aGrow x (min n 48) := by unfold aAcked; rw [if_pos h, if_pos g]
theorem acked_part {x : Aim} {n : Int} (h : 1 ≤ n ∧ n ≤ 4096 ∧ aCheck x = 0) (g : ¬ x.w < x.t) (g2 : x.p + n < x.w) : aAcked x n = ⟨x.w, x.t, x.p + n⟩ := by unfold aAcked; rw [if_pos h, if_neg g, if_pos g2]
theorem acked_full {x : Aim} {n : Int} (h : 1 ≤ n ∧ n ≤ 4096 ∧ aCheck x = 0) (g : ¬ x.w < x.t) (g2 : ¬ x.p + n < x.w) : aAcked x n = ⟨min (x.w + 48) 4096, x.t, 0⟩ := by unfold aAcked; rw [if_pos h, if_neg g, if_neg g2]; rfl
theorem lost_yes {x : Aim} (h : aCheck x = 0) : aLost x = ⟨max (x.w / 2) 96, max (x.w / 2) 96, 0⟩ := if_pos h
theorem lost_no {x : Aim} (h : ¬ aCheck x = 0) : aLost x = x := if_neg h
theorem exp_yes {x : Aim} (h : aCheck x = 0) : aExpired x = ⟨48, max (x.w / 2) 96, 0⟩ := if_pos h
theorem exp_no {x : Aim} (h : ¬ aCheck x = 0) : aExpired x = x := if_neg h
theorem new_is : aOk aNew := by unfold aOk aNew; decide
end Go.Proofs.YtalpfhpeaaocmaaGreat.C10
end
section
namespace Go.Proofs.YtalpfhpeaaocmaaGreat.C10
open Sx Go.RowKit
def mayB (n : Int) : Bool := decide (48 ≤ n ∧ n ≤ 4096)
def gA (f : Aim → AV) : List D → Option (AV × List Ob)
 | [.agg [.int _ a, .int _ b, .int _ c]] => some (f ⟨a, b, c⟩, [])
 | _ => none
def gAn (f : Aim → Int → AV) : List D → Option (AV × List Ob)
 | [.agg [.int _ a, .int _ b, .int _ c], .int _ n] => some (f ⟨a, b, c⟩ n, [])
 | _ => none
def gN (f : Int → AV) : List D → Option (AV × List Ob)
 | [.int _ n] => some (f n, [])
 | _ => none
def G1 : List (Nat × (List D → Option (AV × List Ob))) := [
 (99, gN fun n => .d (.bool (mayB n))), (99999, gN fun n => .d (.bool (mayB n))),
 (71, gA fun x => .d (.int .i64 (aCheck x))), (99999, gA fun x => .d (.int .i64 (aCheck x))),
 (99999, gAn fun x n => .d (.int .i64 (aFree x n))), (99999, gAn fun x n => .d (.int .i64 (aFree x n))),
 (91, gAn fun x n => .d (aD (aAcked x n))), (99999, gAn fun x n => .d (aD (aAcked x n))),
 (72, gA fun x => .d (aD (aLost x))), (99999, gA fun x => .d (aD (aLost x))),
 (49, gA fun x => .d (aD (aExpired x))), (99999, gA fun x => .d (aD (aExpired x))),
 (43, fun _ => some (.d (aD aNew), [])), (99999, fun _ => some (.d (aD aNew), [])),
 (112, gAn fun x n => .d (aD (aGrow x n))), (101, gA fun x => .d (aD (aHalf x)))]
theorem may23 (n : Int) : FnOK Tryz.prog 99 ([.d (.int .i64 n)]) ([]) (.d (.bool (mayB n))) ([]) := by
 refine fnOK_wp (p := condP (decide ((48 : Int) ≤ n)) ((D.bool (decide ((48 : Int) ≤ n)) = D.bool true) ∧ (vB (decide (n ≤ (4096 : Int))) = vB (mayB n)) ∧ True) ((D.bool (decide ((48 : Int) ≤ n)) = D.bool false) ∧ (vB false = vB (mayB n)) ∧ True)) (h := {}) (subs := []) (ws := []) (ρ := []) (by kernel_rfl) ?_
 unfold mayB
 repeat' (with_reducible first|exact ⟨⟩|apply And.intro|(first|apply zA|apply zB|apply zC|apply zD|apply zE|apply zF|apply zG)<;>intro)
 all_goals first | exact dyes (by assumption) | exact dno (by assumption) | (refine dbool ?_; rw [decide_eq_decide]; omega) | (refine dbool (decide_eq_false ?_).symm; omega)
theorem check8 (x : Aim) : FnOK Tryz.prog 71 ([.d (aD x)]) ([]) (.d (.int .i64 (aCheck x))) ([]) := by
 refine fnOK_wp (p := condP (mayB x.w) (condP (mayB x.t) (condP (decide ((0 : Int) ≤ x.p)) ((FnOK Tryz.prog 99 [vI x.w] [] (vB (mayB x.w)) []) ∧ (D.bool (mayB x.w) = D.bool true) ∧ (FnOK Tryz.prog 99 [vI x.t] [] (vB (mayB x.t)) []) ∧ (D.bool (mayB x.t) = D.bool true) ∧ (D.bool (decide ((0 : Int) ≤ x.p)) = D.bool true) ∧ (condP (decide (x.p < x.w)) ((vI 0 = vI (aCheck x)) ∧ True) ((vI 8 = vI (aCheck x)) ∧ True))) ((FnOK Tryz.prog 99 [vI x.w] [] (vB (mayB x.w)) []) ∧ (D.bool (mayB x.w) = D.bool true) ∧ (FnOK Tryz.prog 99 [vI x.t] [] (vB (mayB x.t)) []) ∧ (D.bool (mayB x.t) = D.bool true) ∧ (D.bool (decide ((0 : Int) ≤ x.p)) = D.bool false) ∧ (vI 8 = vI (aCheck x)) ∧ True)) ((FnOK Tryz.prog 99 [vI x.w] [] (vB (mayB x.w)) []) ∧ (D.bool (mayB x.w) = D.bool true) ∧ (FnOK Tryz.prog 99 [vI x.t] [] (vB (mayB x.t)) []) ∧ (D.bool (mayB x.t) = D.bool false) ∧ (rf (D.bool false)) ∧ (vI 8 = vI (aCheck x)) ∧ True)) ((FnOK Tryz.prog 99 [vI x.w] [] (vB (mayB x.w)) []) ∧ (D.bool (mayB x.w) = D.bool false) ∧ (rf (D.bool false)) ∧ (rf (D.bool false)) ∧ (vI 8 = vI (aCheck x)) ∧ True)) (h := {G := G1}) (subs := []) (ws := []) (ρ := []) (by kernel_rfl) ?_
 repeat' (with_reducible first|exact ⟨⟩|apply And.intro|(first|apply zA|apply zB|apply zC|apply zD|apply zE|apply zF|apply zG)<;>intro)
 all_goals first | exact may23 _ | rfl | skip
 all_goals (try simp only [mayB, AV.d.injEq, D.int.injEq, D.bool.injEq, true_and, and_true, decide_eq_true_eq, decide_eq_false_iff_not, Bool.not_eq_true', Bool.not_eq_false', Bool.not_eq_true, Bool.not_eq_false, not_false_eq_true] at *)
 all_goals first | assumption | rfl | omega | (exact (check_iff.2 (by unfold aOk; omega)).symm) | (exact (check_8 (by unfold aOk; omega)).symm) | skip
theorem w64 {n : Int} (h0 : -4611686018427387904 ≤ n) (h1 : n ≤ 4611686018427387904) : IntKind.i64.wrap n = n := by rw [IntKind.wrap_i64]; omega
theorem grow25 (x : Aim) (n : Int) (h0 : 0 ≤ x.w) (h1 : x.w ≤ 4096) (n0 : 0 ≤ n) (n1 : n ≤ 4096) : FnOK Tryz.prog 112 ([.d (aD x), .d (.int .i64 n)]) ([]) (.d (aD (aGrow x n))) ([]) := by
 refine fnOK_wp (p := (AV.d (.agg [D.int .i64 (min (IntKind.i64.wrap (x.w + n)) (4096 : Int)), D.int .i64 x.t, D.int .i64 x.p]) = AV.d (.agg [D.int .i64 (aGrow x n).w, D.int .i64 (aGrow x n).t, D.int .i64 (aGrow x n).p])) ∧ True) (h := {G := G1}) (subs := []) (ws := []) (ρ := []) (by kernel_rfl) ?_
 rw [w64 (by omega) (by omega)]
 exact ⟨rfl, trivial⟩
theorem half27 (x : Aim) (h0 : 0 ≤ x.w) (h1 : x.w ≤ 4096) : FnOK Tryz.prog 101 ([.d (aD x)]) ([]) (.d (aD (aHalf x))) ([]) := by
 refine fnOK_wp (p := ((2 : Int) ≠ (0 : Int)) ∧ (AV.d (.agg [D.int .i64 (max (IntKind.i64.wrap (x.w.tdiv (2 : Int))) (96 : Int)), D.int .i64 (max (IntKind.i64.wrap (x.w.tdiv (2 : Int))) (96 : Int)), D.int .i64 0]) = AV.d (.agg [D.int .i64 (aHalf x).w, D.int .i64 (aHalf x).t, D.int .i64 (aHalf x).p])) ∧ True) (h := {G := G1}) (subs := []) (ws := []) (ρ := []) (by kernel_rfl) ?_
 rw [Int.tdiv_eq_ediv_of_nonneg h0, w64 (by omega) (by omega)]
 exact ⟨by decide, rfl, trivial⟩
theorem shrink26 (x : Aim) : FnOK Tryz.prog 100 ([.d (aD x), .fn 101 []]) ([]) (.d (aD (aLost x))) ([]) := by
 refine fnOK_wp (p := (FnOK Tryz.prog 71 [AV.d (.agg [D.int .i64 x.w, D.int .i64 x.t, D.int .i64 x.p])] [] (AV.d (.int .i64 (aCheck x))) []) ∧ (condP (aCheck x != (0 : Int)) ((AV.d (.agg [D.int .i64 x.w, D.int .i64 x.t, D.int .i64 x.p]) = AV.d (.agg [D.int .i64 (aLost x).w, D.int .i64 (aLost x).t, D.int .i64 (aLost x).p])) ∧ (True)) ((FnOK Tryz.prog 101 [AV.d (.agg [D.int .i64 x.w, D.int .i64 x.t, D.int .i64 x.p])] [] (AV.d (.agg [D.int .i64 (aHalf x).w, D.int .i64 (aHalf x).t, D.int .i64 (aHalf x).p])) []) ∧ ((AV.d (.agg [D.int .i64 (aHalf x).w, D.int .i64 (aHalf x).t, D.int .i64 (aHalf x).p]) = AV.d (.agg [D.int .i64 (aLost x).w, D.int .i64 (aLost x).t, D.int .i64 (aLost x).p])) ∧ (True))))) (h := {G := G1, els := [(9, .fn (gA fun x => .d (aD (aHalf x))))]}) (subs := []) (ws := []) (ρ := []) (by kernel_rfl) ?_
 refine ⟨check8 x, condP_ne (fun h => ⟨?_, trivial⟩) (fun h => ?_)⟩
 ·rw [lost_no h]
 ·have ho := check_iff.1 h
  unfold aOk at ho
  exact ⟨half27 x (by omega) (by omega), by rw [lost_yes h]; rfl, trivial⟩
theorem lost17 (x : Aim) : FnOK Tryz.prog 72 ([.d (aD x)]) ([]) (.d (aD (aLost x))) ([]) := by
 refine fnOK_wp (p := (FnOK Tryz.prog 100 [AV.d (aD x), AV.fn 101 []] [] (AV.d (.agg [D.int .i64 (aLost x).w, D.int .i64 (aLost x).t, D.int .i64 (aLost x).p])) []) ∧ (rf (AV.d (.agg [D.int .i64 (aLost x).w, D.int .i64 (aLost x).t, D.int .i64 (aLost x).p]))) ∧ True) (h := {G := G1, H := [(1, [(1, .call [] (.d (aD (aLost x))) [])])]}) (subs := []) (ws := []) (ρ := []) (by kernel_rfl) ?_
 exact ⟨shrink26 x, rfl, trivial⟩
theorem exp19 (x : Aim) : FnOK Tryz.prog 49 ([.d (aD x)]) ([]) (.d (aD (aExpired x))) ([]) := by
 refine fnOK_wp (p := (FnOK Tryz.prog 71 [AV.d (.agg [D.int .i64 x.w, D.int .i64 x.t, D.int .i64 x.p])] [] (AV.d (.int .i64 (aCheck x))) []) ∧ (condP (aCheck x != (0 : Int)) ((AV.d (.agg [D.int .i64 x.w, D.int .i64 x.t, D.int .i64 x.p]) = AV.d (.agg [D.int .i64 (aExpired x).w, D.int .i64 (aExpired x).t, D.int .i64 (aExpired x).p])) ∧ (True)) ((FnOK Tryz.prog 72 [AV.d (.agg [D.int .i64 x.w, D.int .i64 x.t, D.int .i64 x.p])] [] (AV.d (.agg [D.int .i64 (aLost x).w, D.int .i64 (aLost x).t, D.int .i64 (aLost x).p])) []) ∧ ((AV.d (.agg [D.int .i64 (48 : Int), D.int .i64 (aLost x).t, D.int .i64 (aLost x).p]) = AV.d (.agg [D.int .i64 (aExpired x).w, D.int .i64 (aExpired x).t, D.int .i64 (aExpired x).p])) ∧ (True))))) (h := {G := G1}) (subs := []) (ws := []) (ρ := []) (by kernel_rfl) ?_
 refine ⟨check8 x, condP_ne (fun h => ⟨?_, trivial⟩) (fun h => ⟨lost17 x, ?_, trivial⟩)⟩
 ·rw [exp_no h]
 ·rw [exp_yes h, lost_yes h]
theorem acked15 (x : Aim) (n : Int) : FnOK Tryz.prog 91 ([.d (aD x), .d (.int .i64 n)]) ([]) (.d (aD (aAcked x n))) ([]) := by
 refine fnOK_wp (p := condP (decide (n < (1 : Int))) (condP (decide (n < (1 : Int))) ((AV.d (.agg [D.int .i64 x.w, D.int .i64 x.t, D.int .i64 x.p]) = AV.d (.agg [D.int .i64 (aAcked x n).w, D.int .i64 (aAcked x n).t, D.int .i64 (aAcked x n).p])) ∧ (True)) (condP (decide (x.w < x.t)) ((FnOK Tryz.prog 112 [AV.d (.agg [D.int .i64 x.w, D.int .i64 x.t, D.int .i64 x.p]), AV.d (.int .i64 (min n (48 : Int)))] [] (AV.d (.agg [D.int .i64 (aGrow x (min n (48 : Int))).w, D.int .i64 (aGrow x (min n (48 : Int))).t, D.int .i64 (aGrow x (min n (48 : Int))).p])) []) ∧ ((AV.d (.agg [D.int .i64 (aGrow x (min n (48 : Int))).w, D.int .i64 (aGrow x (min n (48 : Int))).t, D.int .i64 (aGrow x (min n (48 : Int))).p]) = AV.d (.agg [D.int .i64 (aAcked x n).w, D.int .i64 (aAcked x n).t, D.int .i64 (aAcked x n).p])) ∧ (True))) (condP (decide (IntKind.i64.wrap (x.p + n) < x.w)) ((AV.d (.agg [D.int .i64 x.w, D.int .i64 x.t, D.int .i64 (IntKind.i64.wrap (x.p + n))]) = AV.d (.agg [D.int .i64 (aAcked x n).w, D.int .i64 (aAcked x n).t, D.int .i64 (aAcked x n).p])) ∧ (True)) ((FnOK Tryz.prog 112 [AV.d (.agg [D.int .i64 x.w, D.int .i64 x.t, D.int .i64 (0 : Int)]), AV.d (.int .i64 (48 : Int))] [] (AV.d (.agg [D.int .i64 (aGrow (Aim.mk x.w x.t (0 : Int)) (48 : Int)).w, D.int .i64 (aGrow (Aim.mk x.w x.t (0 : Int)) (48 : Int)).t, D.int .i64 (aGrow (Aim.mk x.w x.t (0 : Int)) (48 : Int)).p])) []) ∧ ((AV.d (.agg [D.int .i64 (aGrow (Aim.mk x.w x.t (0 : Int)) (48 : Int)).w, D.int .i64 (aGrow (Aim.mk x.w x.t (0 : Int)) (48 : Int)).t, D.int .i64 (aGrow (Aim.mk x.w x.t (0 : Int)) (48 : Int)).p]) = AV.d (.agg [D.int .i64 (aAcked x n).w, D.int .i64 (aAcked x n).t, D.int .i64 (aAcked x n).p])) ∧ (True)))))) (condP (decide (n > (4096 : Int))) (condP (decide (n > (4096 : Int))) ((AV.d (.agg [D.int .i64 x.w, D.int .i64 x.t, D.int .i64 x.p]) = AV.d (.agg [D.int .i64 (aAcked x n).w, D.int .i64 (aAcked x n).t, D.int .i64 (aAcked x n).p])) ∧ (True)) (condP (decide (x.w < x.t)) ((FnOK Tryz.prog 112 [AV.d (.agg [D.int .i64 x.w, D.int .i64 x.t, D.int .i64 x.p]), AV.d (.int .i64 (min n (48 : Int)))] [] (AV.d (.agg [D.int .i64 (aGrow x (min n (48 : Int))).w, D.int .i64 (aGrow x (min n (48 : Int))).t, D.int .i64 (aGrow x (min n (48 : Int))).p])) []) ∧ ((AV.d (.agg [D.int .i64 (aGrow x (min n (48 : Int))).w, D.int .i64 (aGrow x (min n (48 : Int))).t, D.int .i64 (aGrow x (min n (48 : Int))).p]) = AV.d (.agg [D.int .i64 (aAcked x n).w, D.int .i64 (aAcked x n).t, D.int .i64 (aAcked x n).p])) ∧ (True))) (condP (decide (IntKind.i64.wrap (x.p + n) < x.w)) ((AV.d (.agg [D.int .i64 x.w, D.int .i64 x.t, D.int .i64 (IntKind.i64.wrap (x.p + n))]) = AV.d (.agg [D.int .i64 (aAcked x n).w, D.int .i64 (aAcked x n).t, D.int .i64 (aAcked x n).p])) ∧ (True)) ((FnOK Tryz.prog 112 [AV.d (.agg [D.int .i64 x.w, D.int .i64 x.t, D.int .i64 (0 : Int)]), AV.d (.int .i64 (48 : Int))] [] (AV.d (.agg [D.int .i64 (aGrow (Aim.mk x.w x.t (0 : Int)) (48 : Int)).w, D.int .i64 (aGrow (Aim.mk x.w x.t (0 : Int)) (48 : Int)).t, D.int .i64 (aGrow (Aim.mk x.w x.t (0 : Int)) (48 : Int)).p])) []) ∧ ((AV.d (.agg [D.int .i64 (aGrow (Aim.mk x.w x.t (0 : Int)) (48 : Int)).w, D.int .i64 (aGrow (Aim.mk x.w x.t (0 : Int)) (48 : Int)).t, D.int .i64 (aGrow (Aim.mk x.w x.t (0 : Int)) (48 : Int)).p]) = AV.d (.agg [D.int .i64 (aAcked x n).w, D.int .i64 (aAcked x n).t, D.int .i64 (aAcked x n).p])) ∧ (True)))))) ((FnOK Tryz.prog 71 [AV.d (.agg [D.int .i64 x.w, D.int .i64 x.t, D.int .i64 x.p])] [] (AV.d (.int .i64 (aCheck x))) []) ∧ (condP (aCheck x != (0 : Int)) ((AV.d (.agg [D.int .i64 x.w, D.int .i64 x.t, D.int .i64 x.p]) = AV.d (.agg [D.int .i64 (aAcked x n).w, D.int .i64 (aAcked x n).t, D.int .i64 (aAcked x n).p])) ∧ (True)) (condP (decide (x.w < x.t)) ((FnOK Tryz.prog 112 [AV.d (.agg [D.int .i64 x.w, D.int .i64 x.t, D.int .i64 x.p]), AV.d (.int .i64 (min n (48 : Int)))] [] (AV.d (.agg [D.int .i64 (aGrow x (min n (48 : Int))).w, D.int .i64 (aGrow x (min n (48 : Int))).t, D.int .i64 (aGrow x (min n (48 : Int))).p])) []) ∧ ((AV.d (.agg [D.int .i64 (aGrow x (min n (48 : Int))).w, D.int .i64 (aGrow x (min n (48 : Int))).t, D.int .i64 (aGrow x (min n (48 : Int))).p]) = AV.d (.agg [D.int .i64 (aAcked x n).w, D.int .i64 (aAcked x n).t, D.int .i64 (aAcked x n).p])) ∧ (True))) (condP (decide (IntKind.i64.wrap (x.p + n) < x.w)) ((AV.d (.agg [D.int .i64 x.w, D.int .i64 x.t, D.int .i64 (IntKind.i64.wrap (x.p + n))]) = AV.d (.agg [D.int .i64 (aAcked x n).w, D.int .i64 (aAcked x n).t, D.int .i64 (aAcked x n).p])) ∧ (True)) ((FnOK Tryz.prog 112 [AV.d (.agg [D.int .i64 x.w, D.int .i64 x.t, D.int .i64 (0 : Int)]), AV.d (.int .i64 (48 : Int))] [] (AV.d (.agg [D.int .i64 (aGrow (Aim.mk x.w x.t (0 : Int)) (48 : Int)).w, D.int .i64 (aGrow (Aim.mk x.w x.t (0 : Int)) (48 : Int)).t, D.int .i64 (aGrow (Aim.mk x.w x.t (0 : Int)) (48 : Int)).p])) []) ∧ ((AV.d (.agg [D.int .i64 (aGrow (Aim.mk x.w x.t (0 : Int)) (48 : Int)).w, D.int .i64 (aGrow (Aim.mk x.w x.t (0 : Int)) (48 : Int)).t, D.int .i64 (aGrow (Aim.mk x.w x.t (0 : Int)) (48 : Int)).p]) = AV.d (.agg [D.int .i64 (aAcked x n).w, D.int .i64 (aAcked x n).t, D.int .i64 (aAcked x n).p])) ∧ (True))))))))) (h := {G := G1}) (subs := []) (ws := []) (ρ := []) (by kernel_rfl) ?_
 repeat' (with_reducible first|exact ⟨⟩|apply And.intro|(first|apply zA|apply zB|apply zC|apply zD|apply zE|apply zF|apply zG)<;>intro)
 all_goals first | exact check8 _ | exact check9 _ | exact dyes (by assumption) | exact dno (by assumption) | (refine congrArg D.bool ?_; simp [*]; done) | rfl | (rw [acked_no (fun h => by have := h.2.2; omega)]; done) | (exfalso; omega) | skip
 all_goals
  have hc : 1 ≤ n ∧ n ≤ 4096 ∧ aCheck x = 0 := ⟨by omega, by omega, by assumption⟩
  have ho := check_iff.1 hc.2.2
  unfold aOk at ho
  have w1 : IntKind.i64.wrap (x.p + n) = x.p + n := w64 (by omega) (by omega)
  have w2 : IntKind.i64.wrap (x.w + 48) = x.w + 48 := w64 (by omega) (by omega)
  have w3 : IntKind.i64.wrap (x.w + min n 48) = x.w + min n 48 := w64 (by omega) (by omega)
  simp only [w1] at *
  first | exact grow25 x _ (by omega) (by omega) (by omega) (by omega) | exact grow25 ⟨x.w, x.t, 0⟩ 48 (show 0 ≤ x.w by omega) (show x.w ≤ 4096 by omega) (by omega) (by omega) | exact congrArg (fun y => AV.d (aD y)) (acked_fast hc (by assumption)).symm | exact congrArg (fun y => AV.d (aD y)) (acked_part hc (by assumption) (by omega)).symm | exact congrArg (fun y => AV.d (aD y)) (acked_full hc (by assumption) (by omega)).symm | (rw [acked_fast hc (by assumption), w3]; exact aDeq (Int.min_comm _ _) rfl rfl) | (rw [acked_full hc (by assumption) (by omega), w2]; exact aDeq (Int.min_comm _ _) rfl rfl)
theorem new21  : FnOK Tryz.prog 43 ([]) ([]) (.d (aD aNew)) ([]) := by
 refine fnOK_wp (p := (rf (AV.d (.agg [D.int .i64 96, D.int .i64 1024, D.int .i64 0]))) ∧ True) (h := {}) (subs := []) (ws := []) (ρ := []) (by kernel_rfl) ?_
 exact ⟨rfl, trivial⟩
end Go.Proofs.YtalpfhpeaaocmaaGreat.C10
end
section
namespace Go.Proofs.YtalpfhpeaaocmaaGreat
namespace Sx
open Go.RowKit
theorem take_map_snoc {α β : Type} (f : α → β) {l : List α} {j : Nat} {x : α} (h : l[j]? = some x) : (l.take (j + 1)).map f = (l.take j).map f ++ [f x] := by
 rw [List.take_add_one, h, List.map_append]; rfl
theorem take_snoc {α : Type} {l : List α} {j : Nat} {x : α} (h : l[j]? = some x) : l.take (j + 1) = l.take j ++ [x] := by
 rw [List.take_add_one, h]; rfl
/-- All below n, or the first that fails. -/
theorem first_of (P : Nat → Prop) : ∀ n, (∀ j, j < n → P j) ∨ ∃ m, m < n ∧ ¬P m ∧ ∀ j, j < m → P j
 | 0 => .inl (by omega)
 | n + 1 => by
  rcases first_of P n with h | ⟨m, h1, h2, h3⟩
  ·by_cases g : P n
   ·exact .inl fun j hj => by
     by_cases e : j = n
     ·subst e; exact g
     ·exact h j (by omega)
   ·exact .inr ⟨n, by omega, g, h⟩
  ·exact .inr ⟨m, by omega, h2, h3⟩
/-- All of a list are so, or the first that is not. -/
theorem all_or {α : Type} (P : α → Prop) (l : List α) : (∀ x ∈ l, P x) ∨ ∃ (m : Nat) (x : α), l[m]? = some x ∧ ¬P x ∧ ∀ (j : Nat) (y : α), j < m → l[j]? = some y → P y := by
 induction l with
 | nil => exact .inl (by simp)
 | cons a r ih =>
  by_cases ha : P a
  ·rcases ih with h | ⟨m, x, h1, h2, h3⟩
   ·exact .inl fun x hx => by
     rcases List.mem_cons.1 hx with rfl | hx
     ·exact ha
     ·exact h x hx
   ·refine .inr ⟨m + 1, x, by simpa using h1, h2, fun j y hj hy => ?_⟩
    cases j with
    | zero => simp at hy; exact hy ▸ ha
    | succ j => exact h3 j y (by omega) (by simpa using hy)
  ·exact .inr ⟨0, a, rfl, ha, fun j y hj => by omega⟩
/-- Two rows of one length are the same, or there is a first place where they part. -/
theorem diff_or {α : Type} [DecidableEq α] (a b : List α) (h : a.length = b.length) : a = b ∨ ∃ (m : Nat) (x y : α), a[m]? = some x ∧ b[m]? = some y ∧ x ≠ y ∧ ∀ (j : Nat) (z : α), j < m → a[j]? = some z → b[j]? = some z := by
 induction a generalizing b with
 | nil => cases b with
  | nil => exact .inl rfl
  | cons y r => simp at h
 | cons x r ih =>
  cases b with
  | nil => simp at h
  | cons y s =>
   by_cases hxy : x = y
   ·subst hxy
    rcases ih s (by simpa using h) with e | ⟨m, u, v, h1, h2, h3, h4⟩
    ·exact .inl (by rw [e])
    ·refine .inr ⟨m + 1, u, v, by simpa using h1, by simpa using h2, h3, fun j z hj hz => ?_⟩
     cases j with
     | zero => simpa using hz
     | succ j => simpa using h4 j z (by omega) (by simpa using hz)
   ·exact .inr ⟨0, x, y, rfl, rfl, hxy, fun j z hj => by omega⟩
theorem inc_i64 {j : Nat} (h : j < 4611686018427387904) : IntKind.i64.wrap ((j : Int) + 1) = ((j + 1 : Nat) : Int) := by rw [IntKind.wrap_i64]; omega
theorem get_lt {α : Type} {l : List α} {j : Nat} {x : α} (h : l[j]? = some x) : j < l.length := (List.getElem?_eq_some_iff.1 h).1
theorem get_mem {α : Type} {l : List α} {j : Nat} {x : α} (h : l[j]? = some x) : x ∈ l := List.mem_of_getElem? h
theorem get_of {α : Type} {l : List α} {j : Nat} (h : j < l.length) : l[j]? = some l[j] := List.getElem?_eq_getElem h
end Sx
end Go.Proofs.YtalpfhpeaaocmaaGreat
end
section
namespace Go.Proofs.YtalpfhpeaaocmaaGreat.C12
open Sx Go.RowKit
structure Pt where
 a : Int
 d : List UInt8
 deriving DecidableEq
def ptD (x : Pt) : D := .agg [.int .i64 x.a, .str x.d]
structure Rq where
 b : Int
 r : List UInt8
 p : List Pt
 deriving DecidableEq
def rqD (s : Rq) : D := .agg [.int .i64 s.b, .str s.r, .sl (s.p.map ptD)]
def pEnd (x : Pt) : Int := x.a + x.d.length
def rLim (s : Rq) : Int := min (s.b - s.r.length + 4096) 1099511627776
def sumD (l : List Pt) : Nat := (l.map (·.d.length)).foldl (· + ·) 0
def rHeld (s : Rq) : Nat := s.r.length + sumD s.p
def pBad (lim e : Int) (x : Pt) : Bool := decide (x.a ≤ e) || (decide (x.d = []) || (decide (x.a > lim) || decide ((x.d.length : Int) > lim - x.a)))
/-- Whether a part is out of order; behind them: where the last ends. -/
def rBad (lim : Int) : Int → List Pt → Bool
 | _, [] => false
 | e, x :: l => pBad lim e x || rBad lim (pEnd x) l
def rOut (s : Rq) : Bool := decide (s.b < 0 ∨ s.b > 1099511627776 ∨ s.r.length > 4096 ∨ (s.r.length : Int) > s.b)
def rChk (s : Rq) : Int := if rOut s = true then 8 else if rBad (rLim s) s.b s.p = true then 10 else 0
theorem foldl_add (l : List Nat) : ∀ n, l.foldl (· + ·) n = n + l.foldl (· + ·) 0 := by
 induction l with
 | nil => intro n; rfl
 | cons x r ih => intro n; simp only [List.foldl_cons, Nat.zero_add]; rw [ih (n + x), ih x]; omega
theorem sumD_cons (x : Pt) (l : List Pt) : sumD (x :: l) = x.d.length + sumD l := by
 unfold sumD
 rw [List.map_cons, List.foldl_cons, foldl_add]
 omega
theorem sumD_append (l m : List Pt) : sumD (l ++ m) = sumD l + sumD m := by
 induction l with
 | nil => simp [sumD]
 | cons x r ih => rw [List.cons_append, sumD_cons, sumD_cons, ih]; omega
theorem sumD_take {l : List Pt} {j : Nat} {x : Pt} (h : l[j]? = some x) : sumD (l.take (j + 1)) = sumD (l.take j) + x.d.length := by
 rw [take_snoc h, sumD_append, sumD_cons]
 simp [sumD]
theorem sumD_le {l : List Pt} (j : Nat) : sumD (l.take j) ≤ sumD l := by
 have h := sumD_append (l.take j) (l.drop j)
 rw [List.take_append_drop] at h
 omega
end Go.Proofs.YtalpfhpeaaocmaaGreat.C12
end
section
namespace Go.Proofs.YtalpfhpeaaocmaaGreat.C12
open Sx Go.RowKit
def gAns (a : AV) : List D → Option (AV × List Ob) := fun _ => some (a, [])
theorem ptD_ne {x y : Pt} (h : x ≠ y) : (x.a == y.a && (x.d == y.d && true)) = false := by
 obtain ⟨a, b⟩ := x
 obtain ⟨a', b'⟩ := y
 cases hq : (a == a' && (b == b' && true))
 ·rfl
 ·simp at hq
  exact absurd (by rw [hq.1, hq.2]) h
theorem ptD_sz (l : List Pt) : ∀ e ∈ l.map ptD, e.cells.length = 2 := by
 intro e he
 obtain ⟨x, -, rfl⟩ := List.mem_map.1 he
 rfl
theorem ptD_cloneP (l : List Pt) (hl : l.length < 1073741824) (hne : l.map ptD ≠ []) : FnOK Tryz.prog 65 ([.d (.sl (l.map ptD))]) ([]) (.own 0 2) ([.row 2 (l.map ptD)]) := by
 refine fnOK_wp (p := (rf (D.bool false)) ∧ (List.map ptD l ≠ []) ∧ ((0 + (List.map ptD l).length) * 24 ≤ 140737488355328) ∧ (∀ (e : D), e ∈ List.map ptD l → e.cells.length = 2) ∧ (rf (AV.own 1056 2)) ∧ (Ob.row 2 ([] ++ List.map ptD l) = Ob.row 2 (List.map ptD l)) ∧ True) (h := {H := [(1, [(1, .val (.bool false))])]}) (subs := []) (ws := []) (ρ := []) (by kernel_rfl) ?_
 repeat' (with_reducible first|exact ⟨⟩|apply And.intro|(first|apply zA|apply zB|apply zC|apply zD|apply zE|apply zF|apply zG)<;>intro)
 all_goals first | exact hne | rfl | (simp; omega) | exact ptD_sz _ | skip
theorem ptD_cloneZ (a : Option Addr) (c : Nat) : FnOK Tryz.prog 65 ([.raw (.slice a 0 c)]) ([]) (.own 0 2) ([.row 2 []]) := by
 refine fnOK_wp (p := condP (a.isNone) ((rf (AV.own 900 2)) ∧ (rf (Ob.row 2 [])) ∧ True) ((0 ≤ 140737488355328) ∧ (∀ (e : D), e ∈ [] → e.cells.length = 2) ∧ (rf (AV.own 1056 2)) ∧ (rf (Ob.row 2 [])) ∧ True)) (h := {}) (subs := []) (ws := []) (ρ := []) (by kernel_rfl) ?_
 repeat' (with_reducible first|exact ⟨⟩|apply And.intro|(first|apply zA|apply zB|apply zC|apply zD|apply zE|apply zF|apply zG)<;>intro)
 all_goals first | rfl | (simp; done) | (intro e he; simp at he; done) | skip
theorem ptD_clone (l : List Pt) (hl : l.length < 1073741824) : FnOK Tryz.prog 65 [.d (.sl (l.map ptD))] [] (.own 0 2) [.row 2 (l.map ptD)] := by
 cases l with
 | nil => exact fnOK_nil fun a c => ptD_cloneZ a c
 | cons x r => exact ptD_cloneP (x :: r) hl (by simp)
def ptD_E (a b : List Pt) (j : Nat) : St := ⟨[(0, .d (.sl (a.map ptD))), (1, .d (.sl (b.map ptD))), (13, .d (.int .i64 j)), (12, .d (.int .i64 a.length))], []⟩
def ptD_O : St := ⟨[(4, .d (.bool false))], []⟩
theorem ptD_er (a b : List Pt) (hl : a.length < 1073741824) (j : Nat) (x : Pt) (hx : a[j]? = some x) (hy : b[j]? = some x) : Runs Tryz.prog 0 (loopN Tryz.prog 69 0) (St.as (ptD_E a b j) 26) (.normal) (St.as (ptD_E a b (j+1)) 26) := by
 refine round_wp (p := condP (decide ((↑j : Int) < (↑a.length : Int))) (((0 : Int) ≤ (↑j : Int)) ∧ ((List.map ptD a)[(↑j : Int).toNat]? = some (ptD x)) ∧ ((0 : Int) ≤ (↑j : Int)) ∧ ((List.map ptD b)[(↑j : Int).toNat]? = some (ptD x)) ∧ ((D.bool !(x.a == x.a && (x.d == x.d && true))) = D.bool false) ∧ (rf (vL (List.map ptD a))) ∧ (rf (vL (List.map ptD b))) ∧ (vI (IntKind.i64.wrap ((↑j : Int) + (1 : Int))) = vI (↑(j + 1) : Int)) ∧ (rf (vI (↑a.length : Int))) ∧ True) (False)) (h := {els := [(16, .el (ptD x)), (20, .el (ptD x))], H := [(6, [(8, .val (.bool false))])]}) (subs := []) (ws := []) (ρ := []) (by kernel_rfl) ?_
 have hj := get_lt hx
 have hj2 := get_lt hy
 have hi := inc_i64 (j := j) (by omega)
 simp only [List.length_map, hi]
 refine condP_t (by rw [decide_eq_true_eq]; omega) ?_
 repeat' (with_reducible first|exact ⟨⟩|apply And.intro|(first|apply zA|apply zB|apply zC|apply zD|apply zE|apply zF|apply zG)<;>intro)
 all_goals first | exact el_map hx rfl | exact el_map hy rfl | rfl | omega | (refine congrArg D.bool ?_; simp; done) | (exfalso; simp_all; done) | (refine congrArg D.bool ?_; rw [ptD_ne hne]; rfl) | (exfalso; have hq := ptD_ne hne; simp_all; done) | skip
theorem ptD_ee (a b : List Pt) (hl : a.length < 1073741824) (j : Nat) (x y : Pt) (hx : a[j]? = some x) (hy : b[j]? = some y) (hne : x ≠ y) : Runs Tryz.prog 0 (loopN Tryz.prog 69 0) (St.as (ptD_E a b j) 26) (.ret) (St.as (ptD_O) 26) := by
 refine round_wp (p := condP (decide ((↑j : Int) < (↑a.length : Int))) (((0 : Int) ≤ (↑j : Int)) ∧ ((List.map ptD a)[(↑j : Int).toNat]? = some (ptD x)) ∧ ((0 : Int) ≤ (↑j : Int)) ∧ ((List.map ptD b)[(↑j : Int).toNat]? = some (ptD y)) ∧ ((D.bool !(x.a == y.a && (x.d == y.d && true))) = D.bool true) ∧ (rf (vB false)) ∧ True) (False)) (h := {els := [(16, .el (ptD x)), (20, .el (ptD y))], H := [(6, [(8, .val (.bool true))])]}) (subs := []) (ws := []) (ρ := []) (by kernel_rfl) ?_
 have hj := get_lt hx
 have hj2 := get_lt hy
 have hi := inc_i64 (j := j) (by omega)
 simp only [List.length_map, hi]
 refine condP_t (by rw [decide_eq_true_eq]; omega) ?_
 repeat' (with_reducible first|exact ⟨⟩|apply And.intro|(first|apply zA|apply zB|apply zC|apply zD|apply zE|apply zF|apply zG)<;>intro)
 all_goals first | exact el_map hx rfl | exact el_map hy rfl | rfl | omega | (refine congrArg D.bool ?_; simp; done) | (exfalso; simp_all; done) | (refine congrArg D.bool ?_; rw [ptD_ne hne]; rfl) | (exfalso; have hq := ptD_ne hne; simp_all; done) | skip
theorem ptD_eq' (a b : List Pt) : Runs Tryz.prog 0 (loopN Tryz.prog 69 0) (St.as (ptD_E a b a.length) 26) (.exit 0) (St.as (ptD_E a b a.length) 26) := by
 refine round_wp (p := condP (decide ((↑a.length : Int) < (↑a.length : Int))) (False) ((rf (vL (List.map ptD a))) ∧ (rf (vL (List.map ptD b))) ∧ (rf (vI (↑a.length : Int))) ∧ (rf (vI (↑a.length : Int))) ∧ True)) (h := {}) (subs := []) (ws := []) (ρ := []) (by kernel_rfl) ?_
 repeat' (with_reducible first|exact ⟨⟩|apply And.intro|(first|apply zA|apply zB|apply zC|apply zD|apply zE|apply zF|apply zG)<;>intro)
 all_goals (try simp only [List.length_map, AV.d.injEq, D.int.injEq, D.bool.injEq, D.str.injEq, D.sl.injEq, true_and, and_true, decide_eq_true_eq, decide_eq_false_iff_not, decide_eq_decide])
 all_goals (try simp only [List.length_map] at *)
 all_goals first | rfl | omega
theorem ptD_el (a b : List Pt) (h : a.length ≠ b.length) : FnOK Tryz.prog 69 ([.d (.sl (a.map ptD)), .d (.sl (b.map ptD))]) ([]) (.d (.bool false)) ([]) := by
 refine fnOK_wp (p := condP ((↑(List.map ptD a).length : Int) != (↑(List.map ptD b).length : Int)) ((rf (vB false)) ∧ True) ((rf (vL (List.map ptD a))) ∧ (rf (vL (List.map ptD b))) ∧ (rf (vI 0)) ∧ (vI (↑(List.map ptD a).length : Int) = vI (↑a.length : Int)) ∧ (LoopsS Tryz.prog 0 (loopN Tryz.prog 69 0) (ptD_E a b 0) Exit.ret ptD_O 26) ∧ (rf (vB false)) ∧ True)) (h := {}) (subs := [⟨[], [], ptD_E a b 0, .ret, ptD_O⟩]) (ws := []) (ρ := []) (by kernel_rfl) ?_
 simp only [List.length_map]
 refine condP_t (by simp; omega) ?_
 first | trivial | exact ⟨rfl, trivial⟩
theorem ptD_ey (a b : List Pt) (h : a.length = b.length) (hL : Loops Tryz.prog 0 (loopN Tryz.prog 69 0) ((ptD_E a b 0).as 26) (.exit 0) ((ptD_E a b a.length).as 26)) : FnOK Tryz.prog 69 ([.d (.sl (a.map ptD)), .d (.sl (b.map ptD))]) ([]) (.d (.bool true)) ([]) := by
 refine fnOK_wp (p := (D.bool ((↑(List.map ptD a).length : Int) != (↑(List.map ptD b).length : Int)) = D.bool false) ∧ (rf (vL (List.map ptD a))) ∧ (rf (vL (List.map ptD b))) ∧ (rf (vI 0)) ∧ (vI (↑(List.map ptD a).length : Int) = vI (↑a.length : Int)) ∧ (LoopsS Tryz.prog 0 (loopN Tryz.prog 69 0) (ptD_E a b 0) (Exit.exit 0) (ptD_E a b a.length) 26) ∧ (rf (vB true)) ∧ True) (h := {H := [(1, [(4, .val (.bool false))])]}) (subs := [⟨[], [], ptD_E a b 0, .exit 0, ptD_E a b a.length⟩]) (ws := []) (ρ := []) (by kernel_rfl) ?_
 simp only [List.length_map]
 repeat' (with_reducible first|exact ⟨⟩|apply And.intro|(first|apply zA|apply zB|apply zC|apply zD|apply zE|apply zF|apply zG)<;>intro)
 all_goals first | exact hL | rfl | exact dno (by omega) | (exfalso; omega) | (refine congrArg D.bool ?_; simp; omega) | skip
theorem ptD_en (a b : List Pt) (h : a.length = b.length) (hL : Loops Tryz.prog 0 (loopN Tryz.prog 69 0) ((ptD_E a b 0).as 26) .ret (ptD_O.as 26)) : FnOK Tryz.prog 69 ([.d (.sl (a.map ptD)), .d (.sl (b.map ptD))]) ([]) (.d (.bool false)) ([]) := by
 refine fnOK_wp (p := (D.bool ((↑(List.map ptD a).length : Int) != (↑(List.map ptD b).length : Int)) = D.bool false) ∧ (rf (vL (List.map ptD a))) ∧ (rf (vL (List.map ptD b))) ∧ (rf (vI 0)) ∧ (vI (↑(List.map ptD a).length : Int) = vI (↑a.length : Int)) ∧ (LoopsS Tryz.prog 0 (loopN Tryz.prog 69 0) (ptD_E a b 0) Exit.ret ptD_O 26) ∧ (rf (vB false)) ∧ True) (h := {H := [(1, [(4, .val (.bool false))])]}) (subs := [⟨[], [], ptD_E a b 0, .ret, ptD_O⟩]) (ws := []) (ρ := []) (by kernel_rfl) ?_
 simp only [List.length_map]
 repeat' (with_reducible first|exact ⟨⟩|apply And.intro|(first|apply zA|apply zB|apply zC|apply zD|apply zE|apply zF|apply zG)<;>intro)
 all_goals first | exact hL | rfl | exact dno (by omega) | (exfalso; omega) | (refine congrArg D.bool ?_; simp; omega) | skip
theorem ptD_equal (a b : List Pt) (hl : a.length < 1073741824) : FnOK Tryz.prog 69 [.d (.sl (a.map ptD)), .d (.sl (b.map ptD))] [] (.d (.bool (decide (a = b)))) [] := by
 by_cases h : a.length = b.length
 ·rcases diff_or a b h with e | ⟨m, x, y, h1, h2, h3, h4⟩
  ·rw [decide_eq_true e]
   refine ptD_ey a b h (loops_n (I := fun j => (ptD_E a b j).as 26) (by simp) a.length 0 (by omega) (fun j _ hj => ptD_er a b hl j a[j] (get_of hj) (by rw [← e]; exact get_of hj)) (ptD_eq' a b))
  ·have hm := get_lt h1
   rw [decide_eq_false (by rintro rfl; rw [h1] at h2; cases h2; exact h3 rfl)]
   exact ptD_en a b h (loops_n (I := fun j => (ptD_E a b j).as 26) (by simp) m 0 (by omega) (fun j _ hj => ptD_er a b hl j (a[j]'(by omega)) (get_of _) (h4 j _ hj (get_of _))) (ptD_ee a b hl m x y h1 h2 h3))
 ·rw [decide_eq_false (by rintro rfl; exact h rfl)]; exact ptD_el a b h
theorem pt_one (l : List Pt) : ∀ e ∈ l.map ptD, e.cells.length = 2 := ptD_sz l
theorem del34' (x y : D) (L : List D) (hy : y = ptD ⟨0, []⟩) (hl : L.length < 1000000) (hx : ∀ e ∈ L, e.cells.length = 2) : FnOK Tryz.prog 95 ([.own 0 2, .d (.int .i64 0), .d (.int .i64 1)]) ([.row 2 (x :: L)]) (.sub 0 2 0 L.length) ([.row 2 (L ++ [y])]) := by
 refine fnOK_wp (p := ((0 : Int) ≤ (0 : Int) ∧ (0 : Int) ≤ (1 : Int) ∧ (1 : Int) ≤ (↑(x :: L).length : Int) ∧ (↑(x :: L).length : Int) ≤ (↑(x :: L).length : Int)) ∧ ((0 : Int) ≤ (0 : Int) ∧ (0 : Int) ≤ (0 : Int) ∧ (0 : Int) ≤ (↑(x :: L).length : Int)) ∧ ((0 : Int) ≤ (1 : Int) ∧ (1 : Int) ≤ (↑(x :: L).length : Int) ∧ (↑(x :: L).length : Int) ≤ (↑(x :: L).length : Int)) ∧ (x :: L ≠ []) ∧ (0 + (List.take ((↑(x :: L).length : Int) - (1 : Int)).toNat (List.drop 1 (x :: L))).length ≤ (x :: L).length) ∧ ((0 + (List.take ((↑(x :: L).length : Int) - (1 : Int)).toNat (List.drop 1 (x :: L))).length) * 24 ≤ 140737488355328) ∧ (∀ (e : D), e ∈ List.take ((↑(x :: L).length : Int) - (1 : Int)).toNat (List.drop 1 (x :: L)) → e.cells.length = 2) ∧ ((0 : Int) ≤ (↑(((0 : Int) - (0 : Int)).toNat + (List.take ((↑(x :: L).length : Int) - (1 : Int)).toNat (List.drop (Int.toNat (1 : Int)) (x :: L))).length) : Int) ∧ (↑(((0 : Int) - (0 : Int)).toNat + (List.take ((↑(x :: L).length : Int) - (1 : Int)).toNat (List.drop (Int.toNat (1 : Int)) (x :: L))).length) : Int) ≤ (↑(x :: L).length : Int) ∧ ((↑(x :: L).length : Int) ≤ (↑(((0 : Int) - (0 : Int)).toNat + (List.take ((↑(x :: L).length : Int) - (1 : Int)).toNat (List.drop (Int.toNat (1 : Int)) (x :: L))).length) : Int) ∨ (↑0 : Int) + (↑(x :: L).length : Int) ≤ (↑(List.take ((0 : Int) - (0 : Int)).toNat (x :: L) ++ List.take ((↑(x :: L).length : Int) - (1 : Int)).toNat (List.drop (Int.toNat (1 : Int)) (x :: L)) ++ List.drop (((0 : Int) - (0 : Int)).toNat + (List.take ((↑(x :: L).length : Int) - (1 : Int)).toNat (List.drop (Int.toNat (1 : Int)) (x :: L))).length) (x :: L)).length : Int))) ∧ (List.take 0 (x :: L) ++ List.take ((↑(x :: L).length : Int) - (1 : Int)).toNat (List.drop 1 (x :: L)) ++ List.drop (0 + (List.take ((↑(x :: L).length : Int) - (1 : Int)).toNat (List.drop 1 (x :: L))).length) (x :: L) ≠ []) ∧ (0 < ((↑(x :: L).length : Int) - (↑(0 + (List.take ((↑(x :: L).length : Int) - (1 : Int)).toNat (List.drop 1 (x :: L))).length) : Int)).toNat) ∧ (0 + (↑(0 + (List.take ((↑(x :: L).length : Int) - (1 : Int)).toNat (List.drop 1 (x :: L))).length) : Int).toNat + ((↑(x :: L).length : Int) - (↑(0 + (List.take ((↑(x :: L).length : Int) - (1 : Int)).toNat (List.drop 1 (x :: L))).length) : Int)).toNat ≤ (List.take 0 (x :: L) ++ List.take ((↑(x :: L).length : Int) - (1 : Int)).toNat (List.drop 1 (x :: L)) ++ List.drop (0 + (List.take ((↑(x :: L).length : Int) - (1 : Int)).toNat (List.drop 1 (x :: L))).length) (x :: L)).length) ∧ (AV.sub 0 2 0 (0 + (List.take ((↑(x :: L).length : Int) - (1 : Int)).toNat (List.drop 1 (x :: L))).length) = AV.sub 0 2 0 L.length) ∧ (Ob.row 2 (List.take (0 + (↑(0 + (List.take ((↑(x :: L).length : Int) - (1 : Int)).toNat (List.drop 1 (x :: L))).length) : Int).toNat) (List.take 0 (x :: L) ++ List.take ((↑(x :: L).length : Int) - (1 : Int)).toNat (List.drop 1 (x :: L)) ++ List.drop (0 + (List.take ((↑(x :: L).length : Int) - (1 : Int)).toNat (List.drop 1 (x :: L))).length) (x :: L)) ++ List.replicate ((↑(x :: L).length : Int) - (↑(0 + (List.take ((↑(x :: L).length : Int) - (1 : Int)).toNat (List.drop 1 (x :: L))).length) : Int)).toNat (D.agg [D.int .i64 0, D.str []]) ++ List.drop (0 + (↑(0 + (List.take ((↑(x :: L).length : Int) - (1 : Int)).toNat (List.drop 1 (x :: L))).length) : Int).toNat + ((↑(x :: L).length : Int) - (↑(0 + (List.take ((↑(x :: L).length : Int) - (1 : Int)).toNat (List.drop 1 (x :: L))).length) : Int)).toNat) (List.take 0 (x :: L) ++ List.take ((↑(x :: L).length : Int) - (1 : Int)).toNat (List.drop 1 (x :: L)) ++ List.drop (0 + (List.take ((↑(x :: L).length : Int) - (1 : Int)).toNat (List.drop 1 (x :: L))).length) (x :: L))) = Ob.row 2 (L ++ [y])) ∧ True) (h := {}) (subs := []) (ws := []) (ρ := []) (by kernel_rfl) ?_
 have e1 : (((x :: L).length : Int) - 1).toNat = L.length := by simp
 have e2 : List.take L.length (List.drop 1 (x :: L)) = L := by simp
 have e3 : (((x :: L).length : Int) - (L.length : Int)).toNat = 1 := by simp
 have e4 : List.take 0 (x :: L) ++ L ++ List.drop L.length (x :: L) = L ++ List.drop L.length (x :: L) := by simp
 have e5 : ((L.length : Int)).toNat = L.length := rfl
 have e6 : (List.drop L.length (x :: L)).length = 1 := by simp
 have e7 : List.drop (L.length + 1) (L ++ List.drop L.length (x :: L)) = [] := by
  rw [List.drop_eq_nil_iff, List.length_append, e6]; omega
 have e8 : List.take L.length (L ++ List.drop L.length (x :: L)) = L := by simp
 have e9 : (L ++ List.drop L.length (x :: L)).length = L.length + 1 := by rw [List.length_append, e6]
 have ea : (x :: L).length = L.length + 1 := rfl
 subst hy
 simp only [e1, e2, Nat.zero_add, e3, e4, e5, e6, e7, e8, e9, List.append_nil]
 repeat' (with_reducible first|exact ⟨⟩|apply And.intro|(first|apply zA|apply zB|apply zC|apply zD|apply zE|apply zF|apply zG)<;>intro)
 all_goals first | rfl | omega | exact hx | (simp; done) | (simp; omega) | (rw [ea]; omega) | (intro e he; exact hx e he) | (rw [e9]; omega) | skip
theorem del34 (x : Pt) (l : List Pt) (hl : l.length < 1000000) : FnOK Tryz.prog 95 [.own 0 2, .d (.int .i64 0), .d (.int .i64 1)] [.row 2 (ptD x :: l.map ptD)] (.sub 0 2 0 l.length) [.row 2 (l.map ptD ++ [ptD ⟨0, []⟩])] := by
 have h := del34' (ptD x) _ (l.map ptD) rfl (by simpa using hl) (pt_one l)
 rw [List.length_map] at h
 exact h
theorem end33 (x : Pt) (h : IntKind.i64.wrap (pEnd x) = pEnd x) : FnOK Tryz.prog 94 ([.d (ptD x)]) ([]) (.d (.int .i64 (pEnd x))) ([]) := by
 refine fnOK_wp (p := (vI (IntKind.i64.wrap (x.a + (↑x.d.length : Int))) = vI (pEnd x)) ∧ True) (h := {}) (subs := []) (ws := []) (ρ := []) (by kernel_rfl) ?_
 unfold pEnd at h ⊢
 rw [h]
 repeat' (with_reducible first|exact ⟨⟩|apply And.intro|(first|apply zA|apply zB|apply zC|apply zD|apply zE|apply zF|apply zG)<;>intro)
 all_goals first | rfl | skip
end Go.Proofs.YtalpfhpeaaocmaaGreat.C12
end
section
namespace Go.Proofs.YtalpfhpeaaocmaaGreat.C12
open Sx Go.RowKit
def rqB (s : Rq) : Ob := .box [.d (.int .i64 s.b), .d (.str s.r), .d (.sl (s.p.map ptD))]
/-- What is in reach. -/
structure Rb (s : Rq) : Prop where
 b : -9223372036854775808 ≤ s.b ∧ s.b < 9223372036854775808
 r : s.r.length < 1000000000
 p : s.p.length < 1000000000
 d : ∀ x ∈ s.p, (-9223372036854775808 ≤ x.a ∧ x.a < 9223372036854775808) ∧ x.d.length < 1000000000
theorem lim26 (s : Rq) (h0 : 0 ≤ s.b) (h1 : s.b ≤ 1099511627776) (h2 : s.r.length < 1000000000) : FnOK Tryz.prog 64 ([.d (rqD s)]) ([]) (.d (.int .i64 (rLim s))) ([]) := by
 refine fnOK_wp (p := (vI (min (IntKind.i64.wrap (IntKind.i64.wrap (s.b - (↑s.r.length : Int)) + (4096 : Int))) (1099511627776 : Int)) = vI (rLim s)) ∧ True) (h := {}) (subs := []) (ws := []) (ρ := []) (by kernel_rfl) ?_
 have w1 : IntKind.i64.wrap (s.b - s.r.length) = s.b - s.r.length := by rw [IntKind.wrap_i64]; omega
 have w2 : IntKind.i64.wrap (s.b - s.r.length + 4096) = s.b - s.r.length + 4096 := by rw [IntKind.wrap_i64]; omega
 unfold rLim
 simp only [w1, w2]
 repeat' (with_reducible first|exact ⟨⟩|apply And.intro|(first|apply zA|apply zB|apply zC|apply zD|apply zE|apply zF|apply zG)<;>intro)
 all_goals first | rfl | (rw [Int.min_comm]; done) | skip
def I28 (s : Rq) (j : Nat) : St := ⟨[(1, .ptr 0 0), (3, .d (.int .i64 ((s.r.length + sumD (s.p.take j) : Nat) : Int))), (10, .d (.sl (s.p.map ptD))), (11, .d (.int .i64 s.p.length)), (12, .d (.int .i64 j))], [(0, rqB s)]⟩
theorem r28 (s : Rq) (hh : rHeld s < 1000000000) (hl : s.p.length < 1000000000) (j : Nat) (x : Pt) (hn : s.p[j]? = some x) : Runs Tryz.prog 0 (loopN Tryz.prog 92 0) (St.as (I28 s j) 23) (.normal) (St.as (I28 s (j+1)) 23) := by
 refine round_wp (p := condP (decide ((↑j : Int) < (↑s.p.length : Int))) (((0 : Int) ≤ (↑j : Int)) ∧ ((List.map ptD s.p)[(↑j : Int).toNat]? = some (ptD x)) ∧ (rf (AV.ptr 0 0)) ∧ (vI (IntKind.i64.wrap ((↑(s.r.length + sumD (List.take j s.p)) : Int) + (↑x.d.length : Int))) = vI (↑(s.r.length + sumD (List.take (j + 1) s.p)) : Int)) ∧ (rf (vL (List.map ptD s.p))) ∧ (rf (vI (↑s.p.length : Int))) ∧ (vI (IntKind.i64.wrap ((↑j : Int) + (1 : Int))) = vI (↑(j + 1) : Int)) ∧ (rf (Ob.box [vI s.b, vS s.r, vL (List.map ptD s.p)])) ∧ True) (False)) (h := {els := [(10, .el (ptD x))]}) (subs := []) (ws := []) (ρ := []) (by kernel_rfl) ?_
 have hj := get_lt hn
 have hs := sumD_take hn
 have hle := sumD_le (l := s.p) (j + 1)
 unfold rHeld at hh
 have hi := inc_i64 (j := j) (by omega)
 have hw : IntKind.i64.wrap (((s.r.length + sumD (s.p.take j) : Nat) : Int) + (x.d.length : Int)) = ((s.r.length + sumD (s.p.take (j + 1)) : Nat) : Int) := by rw [IntKind.wrap_i64, hs]; omega
 rw [hi]
 simp only [List.length_map, hw]
 refine condP_t (by rw [decide_eq_true_eq]; omega) ?_
 repeat' (with_reducible first|exact ⟨⟩|apply And.intro|(first|apply zA|apply zB|apply zC|apply zD|apply zE|apply zF|apply zG)<;>intro)
 all_goals first | exact el_map hn rfl | rfl | omega | skip
theorem q28 (s : Rq) : Runs Tryz.prog 0 (loopN Tryz.prog 92 0) (St.as (I28 s s.p.length) 23) (.exit 0) (St.as (I28 s s.p.length) 23) := by
 refine round_wp (p := condP (decide ((↑s.p.length : Int) < (↑s.p.length : Int))) (False) ((rf (AV.ptr 0 0)) ∧ (rf (vI (↑(s.r.length + sumD (List.take s.p.length s.p)) : Int))) ∧ (rf (vL (List.map ptD s.p))) ∧ (rf (vI (↑s.p.length : Int))) ∧ (rf (vI (↑s.p.length : Int))) ∧ (rf (Ob.box [vI s.b, vS s.r, vL (List.map ptD s.p)])) ∧ True)) (h := {}) (subs := []) (ws := []) (ρ := []) (by kernel_rfl) ?_
 repeat' (with_reducible first|exact ⟨⟩|apply And.intro|(first|apply zA|apply zB|apply zC|apply zD|apply zE|apply zF|apply zG)<;>intro)
 all_goals (try simp only [List.length_map, AV.d.injEq, D.int.injEq, D.bool.injEq, D.str.injEq, D.sl.injEq, true_and, and_true, decide_eq_true_eq, decide_eq_false_iff_not, decide_eq_decide])
 all_goals (try simp only [List.length_map] at *)
 all_goals first | rfl | omega
theorem held28 (s : Rq) (hh : rHeld s < 1000000000) (hl : s.p.length < 1000000000) : FnOK Tryz.prog 92 ([.d (rqD s)]) ([]) (.d (.int .i64 (rHeld s))) ([]) := by
 refine fnOK_wp (p := (rf (AV.ptr 1008 0)) ∧ (vI (↑s.r.length : Int) = vI (↑(s.r.length + sumD (List.take 0 s.p)) : Int)) ∧ (rf (vL (List.map ptD s.p))) ∧ (vI (↑(List.map ptD s.p).length : Int) = vI (↑s.p.length : Int)) ∧ (rf (vI 0)) ∧ (rf (Ob.box [vI s.b, vS s.r, vL (List.map ptD s.p)])) ∧ (LoopsS Tryz.prog 0 (loopN Tryz.prog 92 0) (I28 s 0) (Exit.exit 0) (I28 s s.p.length) 23) ∧ (vI (↑(s.r.length + sumD (List.take s.p.length s.p)) : Int) = vI (↑(rHeld s) : Int)) ∧ True) (h := {}) (subs := [⟨[], [], I28 s 0, .exit 0, I28 s s.p.length⟩]) (ws := []) (ρ := []) (by kernel_rfl) ?_
 have h := loops_n (P := Tryz.prog) (k := 0) (c := loopN Tryz.prog 92 0) (e := .exit 0) (I := fun j => (I28 s j).as 23) (by simp) s.p.length 0 (by omega) (fun j _ hj => r28 s hh hl j _ (get_of hj)) (q28 s)
 simp only [List.length_map]
 repeat' (with_reducible first|exact ⟨⟩|apply And.intro|(first|apply zA|apply zB|apply zC|apply zD|apply zE|apply zF|apply zG)<;>intro)
 all_goals first | exact h | rfl | (rw [List.take_length]; rfl) | skip
def I17 (s : Rq) (e : Int) (j : Nat) : St := ⟨[(1, .ptr 0 0), (3, .d (.int .i64 e)), (4, .d (.int .i64 (rLim s))), (29, .d (.sl (s.p.map ptD))), (30, .d (.int .i64 s.p.length)), (31, .d (.int .i64 j))], [(0, rqB s)]⟩
def O17 (n : Int) : St := ⟨[(2, .d (.int .i64 n))], []⟩
theorem r17 (s : Rq) (hb : Rb s) (e : Int) (e0 : 0 ≤ e) (lim : Int) (hlim : rLim s = lim) (l1 : lim ≤ 1099511627776) (j : Nat) (x : Pt) (hn : s.p[j]? = some x) (hx : pBad lim e x = false) (kL : True) : Runs Tryz.prog 0 (loopN Tryz.prog 66 0) (St.as (I17 s e j) 63) (.normal) (St.as (I17 s (pEnd x) (j+1)) 63) := by
 refine round_wp (p := condP (decide ((↑j : Int) < (↑s.p.length : Int))) (((0 : Int) ≤ (↑j : Int)) ∧ ((List.map ptD s.p)[(↑j : Int).toNat]? = some (ptD x)) ∧ (D.bool (decide (x.a ≤ e)) = D.bool false) ∧ (rf (D.bool false)) ∧ (D.bool (x.d == []) = D.bool false) ∧ (rf (D.bool false)) ∧ (D.bool (decide (x.a > rLim s)) = D.bool false) ∧ (rf (D.bool false)) ∧ (D.bool (decide ((↑x.d.length : Int) > IntKind.i64.wrap (rLim s - x.a))) = D.bool false) ∧ (FnOK Tryz.prog 94 [AV.d (ptD x)] [] (vI (pEnd x)) []) ∧ (rf (AV.ptr 0 0)) ∧ (rf (vI (pEnd x))) ∧ (rf (vI (rLim s))) ∧ (rf (vL (List.map ptD s.p))) ∧ (rf (vI (↑s.p.length : Int))) ∧ (vI (IntKind.i64.wrap ((↑j : Int) + (1 : Int))) = vI (↑(j + 1) : Int)) ∧ (rf (Ob.box [vI s.b, vS s.r, vL (List.map ptD s.p)])) ∧ True) (False)) (h := {els := [(29, .el (ptD x))], G := [(94, gAns (.d (.int .i64 (pEnd x))))], H := [(7, [(3, .val (.bool false)), (7, .val (.bool false)), (13, .val (.bool false)), (23, .val (.bool false))])]}) (subs := []) (ws := []) (ρ := []) (by kernel_rfl) ?_
 have hj := get_lt hn
 have hp := hb.p
 have hx2 := hb.d x (get_mem hn)
 have hi := inc_i64 (j := j) (by omega)
 rw [hi]
 unfold pBad at hx
 simp only [Bool.or_eq_false_iff, decide_eq_false_iff_not] at hx
 obtain ⟨g1, g2, g3, g4⟩ := hx
 have hw : IntKind.i64.wrap (lim - x.a) = lim - x.a := by rw [IntKind.wrap_i64]; omega
 have hw2 : IntKind.i64.wrap (pEnd x) = pEnd x := by unfold pEnd; rw [IntKind.wrap_i64]; omega
 have hw3 : IntKind.i64.wrap (x.a + x.d.length) = pEnd x := hw2
 have k1 := end33 x hw2
 simp only [List.length_map, hlim, hw, hw3]
 refine condP_t (by rw [decide_eq_true_eq]; omega) ?_
 repeat' (with_reducible first|exact ⟨⟩|apply And.intro|(first|apply zA|apply zB|apply zC|apply zD|apply zE|apply zF|apply zG)<;>intro)
 all_goals first | exact k1 | exact kL | exact el_map hn rfl | rfl | omega | exact dno (by omega) | exact dyes (by omega) | (refine congrArg D.bool ?_; simpa using g2) | skip
theorem e17 (s : Rq) (hb : Rb s) (e : Int) (e0 : 0 ≤ e) (lim : Int) (hlim : rLim s = lim) (l1 : lim ≤ 1099511627776) (j : Nat) (x : Pt) (hn : s.p[j]? = some x) (hx : pBad lim e x = true) (kL : True) : Runs Tryz.prog 0 (loopN Tryz.prog 66 0) (St.as (I17 s e j) 63) (.ret) (St.as (O17 10) 63) := by
 refine round_wp (p := condP (decide ((↑j : Int) < (↑s.p.length : Int))) (((0 : Int) ≤ (↑j : Int)) ∧ ((List.map ptD s.p)[(↑j : Int).toNat]? = some (ptD x)) ∧ (condP (decide (x.a ≤ e)) ((D.bool (decide (x.a ≤ e)) = D.bool true) ∧ (rf (D.bool true)) ∧ (rf (D.bool true)) ∧ (rf (vI 10)) ∧ True) (condP (x.d == []) ((D.bool (decide (x.a ≤ e)) = D.bool false) ∧ (D.bool (x.d == []) = D.bool true) ∧ (rf (D.bool true)) ∧ (rf (vI 10)) ∧ True) (condP (decide (x.a > rLim s)) ((D.bool (decide (x.a ≤ e)) = D.bool false) ∧ (D.bool (x.d == []) = D.bool false) ∧ (D.bool (decide (x.a > rLim s)) = D.bool true) ∧ (rf (vI 10)) ∧ True) ((D.bool (decide (x.a ≤ e)) = D.bool false) ∧ (D.bool (x.d == []) = D.bool false) ∧ (D.bool (decide (x.a > rLim s)) = D.bool false) ∧ (condP (decide ((↑x.d.length : Int) > IntKind.i64.wrap (rLim s - x.a))) ((rf (vI 10)) ∧ True) ((FnOK Tryz.prog 94 [AV.d (ptD x)] [] (vI 0) []) ∧ (False)))))))) (False)) (h := {els := [(29, .el (ptD x))], G := [(94, gAns (.d (.int .i64 0)))]}) (subs := []) (ws := []) (ρ := []) (by kernel_rfl) ?_
 have hj := get_lt hn
 have hp := hb.p
 have hx2 := hb.d x (get_mem hn)
 unfold pBad at hx
 simp only [List.length_map, hlim]
 refine condP_t (by rw [decide_eq_true_eq]; omega) ?_
 by_cases g1 : x.a ≤ e
 ·repeat' (with_reducible first|exact ⟨⟩|apply And.intro|(first|apply zA|apply zB|apply zC|apply zD|apply zE|apply zF|apply zG)<;>intro)
  all_goals first | exact kL | exact el_map hn rfl | rfl | omega | exact dno (by omega) | exact dyes (by omega) | (refine congrArg D.bool ?_; assumption) | (exfalso; omega) | (exfalso; simp_all; done) | skip
 ·by_cases g2 : x.d = []
  ·repeat' (with_reducible first|exact ⟨⟩|apply And.intro|(first|apply zA|apply zB|apply zC|apply zD|apply zE|apply zF|apply zG)<;>intro)
   all_goals first | exact kL | exact el_map hn rfl | rfl | omega | exact dno (by omega) | exact dyes (by omega) | (refine congrArg D.bool ?_; assumption) | (exfalso; omega) | (exfalso; simp_all; done) | skip
  ·by_cases g3 : x.a > lim
   ·repeat' (with_reducible first|exact ⟨⟩|apply And.intro|(first|apply zA|apply zB|apply zC|apply zD|apply zE|apply zF|apply zG)<;>intro)
    all_goals first | exact kL | exact el_map hn rfl | rfl | omega | exact dno (by omega) | exact dyes (by omega) | (refine congrArg D.bool ?_; assumption) | (exfalso; omega) | (exfalso; simp_all; done) | skip
   ·have hw : IntKind.i64.wrap (lim - x.a) = lim - x.a := by rw [IntKind.wrap_i64]; omega
    simp only [hw]
    repeat' (with_reducible first|exact ⟨⟩|apply And.intro|(first|apply zA|apply zB|apply zC|apply zD|apply zE|apply zF|apply zG)<;>intro)
    all_goals first | exact kL | exact el_map hn rfl | rfl | omega | exact dno (by omega) | exact dyes (by omega) | (refine congrArg D.bool ?_; assumption) | (exfalso; omega) | (exfalso; simp_all; omega) | (exfalso; simp_all; done) | skip
theorem q17 (s : Rq) (e : Int) : Runs Tryz.prog 0 (loopN Tryz.prog 66 0) (St.as (I17 s e s.p.length) 63) (.exit 0) (St.as (I17 s e s.p.length) 63) := by
 refine round_wp (p := condP (decide ((↑s.p.length : Int) < (↑s.p.length : Int))) (False) ((rf (AV.ptr 0 0)) ∧ (rf (vI e)) ∧ (rf (vI (rLim s))) ∧ (rf (vL (List.map ptD s.p))) ∧ (rf (vI (↑s.p.length : Int))) ∧ (rf (vI (↑s.p.length : Int))) ∧ (rf (Ob.box [vI s.b, vS s.r, vL (List.map ptD s.p)])) ∧ True)) (h := {}) (subs := []) (ws := []) (ρ := []) (by kernel_rfl) ?_
 repeat' (with_reducible first|exact ⟨⟩|apply And.intro|(first|apply zA|apply zB|apply zC|apply zD|apply zE|apply zF|apply zG)<;>intro)
 all_goals (try simp only [List.length_map, AV.d.injEq, D.int.injEq, D.bool.injEq, D.str.injEq, D.sl.injEq, true_and, and_true, decide_eq_true_eq, decide_eq_false_iff_not, decide_eq_decide])
 all_goals (try simp only [List.length_map] at *)
 all_goals first | rfl | omega
end Go.Proofs.YtalpfhpeaaocmaaGreat.C12
end
section
namespace Go.Proofs.YtalpfhpeaaocmaaGreat.C12
open Sx Go.RowKit
theorem pBad_end {lim e : Int} {x : Pt} (e0 : 0 ≤ e) (h : pBad lim e x = false) : 0 ≤ pEnd x ∧ pEnd x ≤ lim ∧ e < x.a ∧ x.d ≠ [] := by
 unfold pBad at h
 simp only [Bool.or_eq_false_iff, decide_eq_false_iff_not] at h
 obtain ⟨g1, g2, g3, g4⟩ := h
 unfold pEnd
 exact ⟨by omega, by omega, by omega, g2⟩
theorem drop_cons {l : List Pt} {j : Nat} {x : Pt} {r : List Pt} (h : l.drop j = x :: r) : l[j]? = some x ∧ l.drop (j + 1) = r := by
 constructor
 ·have : (l.drop j)[0]? = some x := by rw [h]; rfl
  rw [List.getElem?_drop] at this
  exact this
 ·rw [← List.drop_drop, h]; rfl
theorem l17 (s : Rq) (hb : Rb s) (hl : rLim s ≤ 1099511627776) (K : True) : ∀ (m : List Pt) (j : Nat) (e : Int), 0 ≤ e → s.p.drop j = m → j ≤ s.p.length →
  (rBad (rLim s) e m = false → ∃ e', Loops Tryz.prog 0 (loopN Tryz.prog 66 0) ((I17 s e j).as 63) (.exit 0) ((I17 s e' s.p.length).as 63)) ∧
  (rBad (rLim s) e m = true → Loops Tryz.prog 0 (loopN Tryz.prog 66 0) ((I17 s e j).as 63) .ret ((O17 10).as 63))
 | [], j, e, e0, hd, hj => by
  have hjl : j = s.p.length := by
   have : (s.p.drop j).length = 0 := by rw [hd]; rfl
   rw [List.length_drop] at this
   omega
  subst hjl
  exact ⟨fun _ => ⟨e, .out (q17 s e) (by simp)⟩, fun h => by cases h⟩
 | x :: r, j, e, e0, hd, hj => by
  obtain ⟨hn, hd2⟩ := drop_cons hd
  have hjl := get_lt hn
  unfold rBad
  cases hx : pBad (rLim s) e x
  ·have hx2 := pBad_end e0 hx
   obtain ⟨i1, i2⟩ := l17 s hb hl K r (j + 1) (pEnd x) hx2.1 hd2 (by omega)
   refine ⟨fun h => ?_, fun h => ?_⟩
   ·obtain ⟨e', h'⟩ := i1 (by simpa using h)
    exact ⟨e', .next (r17 s hb e e0 _ rfl hl j x hn hx K) h'⟩
   ·exact .next (r17 s hb e e0 _ rfl hl j x hn hx K) (i2 (by simpa using h))
  ·exact ⟨fun h => by simp at h, fun _ => .out (e17 s hb e e0 _ rfl hl j x hn hx K) (by simp)⟩
theorem chk17o (s : Rq) (hb : Rb s) (ho : rOut s = true) : FnOK Tryz.prog 66 ([.d (rqD s)]) ([]) (.d (.int .i64 8)) ([]) := by
 refine fnOK_wp (p := condP (decide (s.b < (0 : Int))) ((D.bool (decide (s.b < (0 : Int))) = D.bool true) ∧ (rf (D.bool true)) ∧ (rf (vI 8)) ∧ True) (condP (decide (s.b > (1099511627776 : Int))) ((D.bool (decide (s.b < (0 : Int))) = D.bool false) ∧ (D.bool (decide (s.b > (1099511627776 : Int))) = D.bool true) ∧ (rf (vI 8)) ∧ True) ((D.bool (decide (s.b < (0 : Int))) = D.bool false) ∧ (D.bool (decide (s.b > (1099511627776 : Int))) = D.bool false) ∧ (condP (decide ((↑s.r.length : Int) > min s.b (4096 : Int))) ((rf (vI 8)) ∧ True) ((FnOK Tryz.prog 64 [AV.d (rqD s)] [] (vI 0) []) ∧ (rf (AV.ptr 1008 0)) ∧ (rf (vI s.b)) ∧ (vI 0 = vI (rLim s)) ∧ (rf (vL (List.map ptD s.p))) ∧ (vI (↑(List.map ptD s.p).length : Int) = vI (↑s.p.length : Int)) ∧ (rf (vI 0)) ∧ (rf (Ob.box [vI s.b, vS s.r, vL (List.map ptD s.p)])) ∧ (LoopsS Tryz.prog 0 (loopN Tryz.prog 66 0) (I17 s s.b 0) Exit.ret (O17 (10 : Int)) 63) ∧ (vI 10 = vI 8) ∧ True))))) (h := {G := [(64, gAns (.d (.int .i64 0)))]}) (subs := [⟨[], [], I17 s s.b 0, .ret, O17 10⟩]) (ws := []) (ρ := []) (by kernel_rfl) ?_
 have hb1 := hb.b
 have hb2 := hb.r
 have ho := of_decide_eq_true ho
 repeat' (with_reducible first|exact ⟨⟩|apply And.intro|(first|apply zA|apply zB|apply zC|apply zD|apply zE|apply zF|apply zG)<;>intro)
 all_goals first | rfl | exact dyes ‹_› | exact dno ‹_› | exact dyes (by omega) | exact dno (by omega) | (exfalso; omega) | (exfalso; simp_all; omega) | skip
theorem chk17e (s : Rq) (hb : Rb s) (ho : rOut s = false) (lim : Int) (hm : rLim s = lim) (kl : FnOK Tryz.prog 64 [.d (rqD s)] [] (.d (.int .i64 (rLim s))) []) (hL : Loops Tryz.prog 0 (loopN Tryz.prog 66 0) ((I17 s s.b 0).as 63) .ret ((O17 10).as 63)) : FnOK Tryz.prog 66 ([.d (rqD s)]) ([]) (.d (.int .i64 10)) ([]) := by
 refine fnOK_wp (p := (D.bool (decide (s.b < (0 : Int))) = D.bool false) ∧ (rf (D.bool false)) ∧ (D.bool (decide (s.b > (1099511627776 : Int))) = D.bool false) ∧ (rf (D.bool false)) ∧ (D.bool (decide ((↑s.r.length : Int) > min s.b (4096 : Int))) = D.bool false) ∧ (FnOK Tryz.prog 64 [AV.d (rqD s)] [] (vI (rLim s)) []) ∧ (rf (AV.ptr 1008 0)) ∧ (rf (vI s.b)) ∧ (rf (vI (rLim s))) ∧ (rf (vL (List.map ptD s.p))) ∧ (vI (↑(List.map ptD s.p).length : Int) = vI (↑s.p.length : Int)) ∧ (rf (vI 0)) ∧ (rf (Ob.box [vI s.b, vS s.r, vL (List.map ptD s.p)])) ∧ (LoopsS Tryz.prog 0 (loopN Tryz.prog 66 0) (I17 s s.b 0) Exit.ret (O17 (10 : Int)) 63) ∧ (rf (vI 10)) ∧ True) (h := {G := [(64, gAns (.d (.int .i64 (rLim s))))], H := [(1, [(2, .val (.bool false)), (6, .val (.bool false)), (15, .val (.bool false))])]}) (subs := [⟨[], [], I17 s s.b 0, .ret, O17 10⟩]) (ws := []) (ρ := []) (by kernel_rfl) ?_
 have hb1 := hb.b
 have hb2 := hb.r
 have ho := of_decide_eq_false ho
 simp only [List.length_map]
 repeat' (with_reducible first|exact ⟨⟩|apply And.intro|(first|apply zA|apply zB|apply zC|apply zD|apply zE|apply zF|apply zG)<;>intro)
 all_goals first | exact kl | exact hL | rfl | exact dyes (by omega) | exact dno (by omega) | omega | skip
theorem chk17y (s : Rq) (hb : Rb s) (ho : rOut s = false) (e : Int) (kl : FnOK Tryz.prog 64 [.d (rqD s)] [] (.d (.int .i64 (rLim s))) []) (hL : Loops Tryz.prog 0 (loopN Tryz.prog 66 0) ((I17 s s.b 0).as 63) (.exit 0) ((I17 s e s.p.length).as 63)) : FnOK Tryz.prog 66 ([.d (rqD s)]) ([]) (.d (.int .i64 0)) ([]) := by
 refine fnOK_wp (p := (D.bool (decide (s.b < (0 : Int))) = D.bool false) ∧ (rf (D.bool false)) ∧ (D.bool (decide (s.b > (1099511627776 : Int))) = D.bool false) ∧ (rf (D.bool false)) ∧ (D.bool (decide ((↑s.r.length : Int) > min s.b (4096 : Int))) = D.bool false) ∧ (FnOK Tryz.prog 64 [AV.d (rqD s)] [] (vI (rLim s)) []) ∧ (rf (AV.ptr 1008 0)) ∧ (rf (vI s.b)) ∧ (rf (vI (rLim s))) ∧ (rf (vL (List.map ptD s.p))) ∧ (vI (↑(List.map ptD s.p).length : Int) = vI (↑s.p.length : Int)) ∧ (rf (vI 0)) ∧ (rf (Ob.box [vI s.b, vS s.r, vL (List.map ptD s.p)])) ∧ (LoopsS Tryz.prog 0 (loopN Tryz.prog 66 0) (I17 s s.b 0) (Exit.exit 0) (I17 s e s.p.length) 63) ∧ (rf (vI 0)) ∧ True) (h := {G := [(64, gAns (.d (.int .i64 (rLim s))))], H := [(1, [(2, .val (.bool false)), (6, .val (.bool false)), (15, .val (.bool false))])]}) (subs := [⟨[], [], I17 s s.b 0, .exit 0, I17 s e s.p.length⟩]) (ws := []) (ρ := []) (by kernel_rfl) ?_
 have hb1 := hb.b
 have hb2 := hb.r
 have ho := of_decide_eq_false ho
 simp only [List.length_map]
 repeat' (with_reducible first|exact ⟨⟩|apply And.intro|(first|apply zA|apply zB|apply zC|apply zD|apply zE|apply zF|apply zG)<;>intro)
 all_goals first | exact kl | exact hL | rfl | exact dyes (by omega) | exact dno (by omega) | omega | skip
theorem rOut_no {s : Rq} (h : rOut s = false) : 0 ≤ s.b ∧ s.b ≤ 1099511627776 ∧ s.r.length ≤ 4096 ∧ (s.r.length : Int) ≤ s.b := by
 have := of_decide_eq_false h
 omega
theorem rLim_le (s : Rq) : rLim s ≤ 1099511627776 := by unfold rLim; omega
theorem chk17 (s : Rq) (hb : Rb s) : FnOK Tryz.prog 66 [.d (rqD s)] [] (.d (.int .i64 (rChk s))) [] := by
 unfold rChk
 cases ho : rOut s
 ·have h := rOut_no ho
  have kl := lim26 s h.1 h.2.1 hb.r
  obtain ⟨i1, i2⟩ := l17 s hb (rLim_le s) trivial s.p 0 s.b h.1 rfl (by omega)
  rw [if_neg (by simp)]
  cases hq : rBad (rLim s) s.b s.p
  ·obtain ⟨e, hL⟩ := i1 hq
   exact chk17y s hb ho e kl hL
  ·exact chk17e s hb ho _ rfl kl (i2 hq)
 ·exact chk17o s hb ho
end Go.Proofs.YtalpfhpeaaocmaaGreat.C12
end
section
namespace Go.Proofs.YtalpfhpeaaocmaaGreat.C12
open Sx Go.RowKit
theorem rq_ne {a b : Rq} (h : ¬(a.b = b.b ∧ a.r = b.r ∧ a.p = b.p)) : decide (a = b) = false := decide_eq_false fun e => h (by rw [e]; exact ⟨rfl, rfl, rfl⟩)
theorem rq_eq {a b : Rq} (h : a.b = b.b ∧ a.r = b.r ∧ a.p = b.p) : decide (a = b) = true := decide_eq_true (by
 obtain ⟨l, f, u⟩ := a
 obtain ⟨l', f', u'⟩ := b
 obtain ⟨rfl, rfl, rfl⟩ := h
 rfl)
theorem same19f (a b : Rq) (h : a.b ≠ b.b) : FnOK Tryz.prog 36 ([.d (rqD a), .d (rqD b)]) ([]) (.d (.bool false)) ([]) := by
 refine fnOK_wp (p := (D.bool (a.b == b.b) = D.bool false) ∧ (rf (D.bool false)) ∧ (rf (D.bool false)) ∧ (rf (vB false)) ∧ True) (h := {H := [(1, [(4, .val (.bool false))])]}) (subs := []) (ws := []) (ρ := []) (by kernel_rfl) ?_
 repeat' (with_reducible first|exact ⟨⟩|apply And.intro|(first|apply zA|apply zB|apply zC|apply zD|apply zE|apply zF|apply zG)<;>intro)
 all_goals first | exact k | rfl | (refine congrArg D.bool ?_; simp_all; done) | skip
theorem same19u (a b : Rq) (h : a.b = b.b) (h2 : a.r ≠ b.r) : FnOK Tryz.prog 36 ([.d (rqD a), .d (rqD b)]) ([]) (.d (.bool false)) ([]) := by
 refine fnOK_wp (p := (D.bool (a.b == b.b) = D.bool true) ∧ (rf (D.bool true)) ∧ (D.bool (a.r == b.r) = D.bool false) ∧ (rf (D.bool false)) ∧ (rf (vB false)) ∧ True) (h := {H := [(1, [(4, .val (.bool true)), (10, .val (.bool false))])]}) (subs := []) (ws := []) (ρ := []) (by kernel_rfl) ?_
 repeat' (with_reducible first|exact ⟨⟩|apply And.intro|(first|apply zA|apply zB|apply zC|apply zD|apply zE|apply zF|apply zG)<;>intro)
 all_goals first | exact k | rfl | (refine congrArg D.bool ?_; simp_all; done) | skip
theorem same19y (a b : Rq) (h : a.b = b.b) (h2 : a.r = b.r) (q : Bool) (k : FnOK Tryz.prog 69 [.d (.sl (a.p.map ptD)), .d (.sl (b.p.map ptD))] [] (.d (.bool q)) []) : FnOK Tryz.prog 36 ([.d (rqD a), .d (rqD b)]) ([]) (.d (.bool q)) ([]) := by
 refine fnOK_wp (p := (D.bool (a.b == b.b) = D.bool true) ∧ (rf (D.bool true)) ∧ (D.bool (a.r == b.r) = D.bool true) ∧ (rf (D.bool true)) ∧ (FnOK Tryz.prog 69 [vL (List.map ptD a.p), vL (List.map ptD b.p)] [] (vB q) []) ∧ (rf (vB q)) ∧ True) (h := {H := [(1, [(4, .val (.bool true)), (10, .val (.bool true)), (17, .call [] (.d (.bool q)) [])])]}) (subs := []) (ws := []) (ρ := []) (by kernel_rfl) ?_
 repeat' (with_reducible first|exact ⟨⟩|apply And.intro|(first|apply zA|apply zB|apply zC|apply zD|apply zE|apply zF|apply zG)<;>intro)
 all_goals first | exact k | rfl | (refine congrArg D.bool ?_; simp_all; done) | skip
theorem same19 (a b : Rq) (hl : a.p.length < 1000000) : FnOK Tryz.prog 36 [.d (rqD a), .d (rqD b)] [] (.d (.bool (decide (a = b)))) [] := by
 by_cases h : a.b = b.b
 ·by_cases h2 : a.r = b.r
  ·have e : decide (a = b) = decide (a.p = b.p) := by
    by_cases h3 : a.p = b.p
    ·rw [rq_eq ⟨h, h2, h3⟩, decide_eq_true h3]
    ·rw [rq_ne (fun g => h3 g.2.2), decide_eq_false h3]
   rw [e]
   exact same19y a b h h2 _ (ptD_equal a.p b.p (by omega))
  ·rw [rq_ne (fun g => h2 g.2.1)]; exact same19u a b h h2
 ·rw [rq_ne (fun g => h g.1)]; exact same19f a b h
theorem new30  : FnOK Tryz.prog 41 ([]) ([]) (.d (rqD ⟨0, [], []⟩)) ([]) := by
 refine fnOK_wp (p := (rf (AV.d (.agg [D.int .i64 0, D.str [], D.sl []]))) ∧ True) (h := {}) (subs := []) (ws := []) (ρ := []) (by kernel_rfl) ?_
 exact ⟨rfl, trivial⟩
def rRead (s : Rq) (n : Int) : Rq × List UInt8 := if rChk s ≠ 0 ∨ n < 1 then (s, []) else (⟨s.b, s.r.drop n.toNat, s.p⟩, s.r.take n.toNat)
theorem read_len {s : List UInt8} {n : Int} : s.drop (min n (s.length : Int)).toNat = s.drop n.toNat ∧ s.take (min n (s.length : Int)).toNat = s.take n.toNat := by
 by_cases h : n ≤ s.length
 ·rw [Int.min_eq_left h]; exact ⟨rfl, rfl⟩
 ·have e : (min n (s.length : Int)).toNat = s.length := by omega
  rw [e, List.take_length, List.drop_length, List.take_of_length_le (by omega), List.drop_eq_nil_of_le (by omega)]
  exact ⟨rfl, rfl⟩
theorem read13n (s : Rq) (hb : Rb s) (hl : s.p.length < 1000000) (n e : Int) (he : rChk s = e) (h : e ≠ 0 ∨ n < 1) : FnOK Tryz.prog 34 ([.d (rqD s), .d (.int .i64 n)]) ([]) (.tup [.d (rqD s), .d (.str [])]) ([]) := by
 refine fnOK_wp (p := (FnOK Tryz.prog 65 [vL (List.map ptD s.p)] [] (AV.own 0 2) [Ob.row 2 (List.map ptD s.p)]) ∧ (condP (decide (n < (1 : Int))) ((D.bool (decide (n < (1 : Int))) = D.bool true) ∧ (rf (AV.tup [AV.d (rqD s), vS []])) ∧ True) ((D.bool (decide (n < (1 : Int))) = D.bool false) ∧ (FnOK Tryz.prog 66 [AV.d (rqD s)] [] (vI e) []) ∧ (condP (e != (0 : Int)) ((rf (AV.tup [AV.d (rqD s), vS []])) ∧ True) (((0 : Int) ≤ (0 : Int) ∧ (0 : Int) ≤ min n (↑s.r.length : Int) ∧ min n (↑s.r.length : Int) ≤ (↑s.r.length : Int)) ∧ ((0 : Int) ≤ min n (↑s.r.length : Int) ∧ min n (↑s.r.length : Int) ≤ (↑s.r.length : Int) ∧ (↑s.r.length : Int) ≤ (↑s.r.length : Int)) ∧ (AV.tup [AV.d (.agg [D.int .i64 s.b, D.str (List.drop (min n (↑s.r.length : Int)).toNat (List.take (↑s.r.length : Int).toNat s.r)), D.sl (List.map ptD s.p)]), vS (List.drop 0 (List.take (min n (↑s.r.length : Int)).toNat s.r))] = AV.tup [AV.d (rqD s), vS []]) ∧ True))))) (h := {H := [(1, [(2, .call [] (.own 0 2) [.row 2 (s.p.map ptD)])])], G := [(66, gAns (.d (.int .i64 e)))]}) (subs := []) (ws := []) (ρ := []) (by kernel_rfl) ?_
 have k1 := chk17 s hb
 rw [he] at k1
 have k2 := ptD_clone s.p (by omega)
 repeat' (with_reducible first|exact ⟨⟩|apply And.intro|(first|apply zA|apply zB|apply zC|apply zD|apply zE|apply zF|apply zG)<;>intro)
 all_goals first | exact k1 | exact k2 | rfl | exact dyes ‹_› | exact dno ‹_› | (refine congrArg D.bool ?_; assumption) | (refine congrArg D.bool ?_; simp; assumption) | (exfalso; simp_all; omega) | (exfalso; simp_all; done) | skip
theorem read13y (s : Rq) (hb : Rb s) (hl : s.p.length < 1000000) (n : Int) (he : rChk s = 0) (h : 1 ≤ n) : FnOK Tryz.prog 34 ([.d (rqD s), .d (.int .i64 n)]) ([]) (.tup [.d (rqD ⟨s.b, s.r.drop n.toNat, s.p⟩), .d (.str (s.r.take n.toNat))]) ([]) := by
 refine fnOK_wp (p := (FnOK Tryz.prog 65 [vL (List.map ptD s.p)] [] (AV.own 0 2) [Ob.row 2 (List.map ptD s.p)]) ∧ (D.bool (decide (n < (1 : Int))) = D.bool false) ∧ (rf (D.bool false)) ∧ (FnOK Tryz.prog 66 [AV.d (rqD s)] [] (vI 0) []) ∧ ((0 : Int) ≤ (0 : Int) ∧ (0 : Int) ≤ min n (↑s.r.length : Int) ∧ min n (↑s.r.length : Int) ≤ (↑s.r.length : Int)) ∧ ((0 : Int) ≤ min n (↑s.r.length : Int) ∧ min n (↑s.r.length : Int) ≤ (↑s.r.length : Int) ∧ (↑s.r.length : Int) ≤ (↑s.r.length : Int)) ∧ (AV.tup [AV.d (.agg [D.int .i64 s.b, D.str (List.drop (min n (↑s.r.length : Int)).toNat (List.take (↑s.r.length : Int).toNat s.r)), D.sl (List.map ptD s.p)]), vS (List.drop 0 (List.take (min n (↑s.r.length : Int)).toNat s.r))] = AV.tup [AV.d (.agg [D.int .i64 s.b, D.str (List.drop n.toNat s.r), D.sl (List.map ptD s.p)]), vS (List.take n.toNat s.r)]) ∧ True) (h := {H := [(1, [(2, .call [] (.own 0 2) [.row 2 (s.p.map ptD)])]), (2, [(1, .val (.bool false))])], G := [(66, gAns (.d (.int .i64 0)))]}) (subs := []) (ws := []) (ρ := []) (by kernel_rfl) ?_
 have k1 := chk17 s hb
 rw [he] at k1
 have k2 := ptD_clone s.p (by omega)
 have t1 : List.take ((s.r.length : Int)).toNat s.r = s.r := List.take_length
 simp only [t1, (read_len (s := s.r) (n := n)).1, (read_len (s := s.r) (n := n)).2, List.drop_zero]
 repeat' (with_reducible first|exact ⟨⟩|apply And.intro|(first|apply zA|apply zB|apply zC|apply zD|apply zE|apply zF|apply zG)<;>intro)
 all_goals first | exact k1 | exact k2 | rfl | exact dno (by omega) | omega | skip
theorem read13 (s : Rq) (hb : Rb s) (hl : s.p.length < 1000000) (n : Int) : FnOK Tryz.prog 34 [.d (rqD s), .d (.int .i64 n)] [] (.tup [.d (rqD (rRead s n).1), .d (.str (rRead s n).2)]) [] := by
 unfold rRead
 by_cases h : rChk s ≠ 0 ∨ n < 1
 ·rw [if_pos h]; exact read13n s hb hl n _ rfl h
 ·rw [if_neg h]; exact read13y s hb hl n (by omega) (by omega)
end Go.Proofs.YtalpfhpeaaocmaaGreat.C12
end
section
namespace Go.Proofs.YtalpfhpeaaocmaaGreat.C12
open Sx Go.RowKit
theorem rBad_mem {lim : Int} (hl : lim ≤ 1099511627776) : ∀ {l : List Pt} {e : Int}, 0 ≤ e → rBad lim e l = false → ∀ x ∈ l, (0 < x.a ∧ pEnd x ≤ lim ∧ x.d ≠ []) ∧ IntKind.i64.wrap (pEnd x) = pEnd x
 | [], e, e0, h, x, hx => by cases hx
 | y :: r, e, e0, h, x, hx => by
  unfold rBad at h
  rw [Bool.or_eq_false_iff] at h
  have hy := pBad_end e0 h.1
  rcases List.mem_cons.1 hx with rfl | hx
  ·exact ⟨⟨by omega, hy.2.1, hy.2.2.2⟩, by rw [IntKind.wrap_i64]; omega⟩
  ·exact rBad_mem hl hy.1 h.2 x hx
theorem chk_zero {s : Rq} (h : rChk s = 0) : (0 ≤ s.b ∧ s.b ≤ 1099511627776 ∧ s.r.length ≤ 4096 ∧ (s.r.length : Int) ≤ s.b) ∧ rBad (rLim s) s.b s.p = false := by
 unfold rChk at h
 cases ho : rOut s
 ·rw [ho, if_neg (by simp)] at h
  refine ⟨rOut_no ho, ?_⟩
  cases hq : rBad (rLim s) s.b s.p
  ·rfl
  ·rw [hq] at h; simp at h
 ·rw [ho] at h; simp at h
end Go.Proofs.YtalpfhpeaaocmaaGreat.C12
end
