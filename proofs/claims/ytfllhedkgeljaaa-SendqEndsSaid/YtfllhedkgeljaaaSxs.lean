/-
Code by hints, seen from its end: what is asked of each way through it. No condition.
-/
import Derived.Test.YtfllhedkgeljaaaSxr
set_option linter.unusedSimpArgs false
set_option linter.unusedVariables false
namespace Go.Proofs.Ytfllhedkgeljaaa
namespace Sx
open Go.RowKit

def condP (b : Bool) (p q : Prop) : Prop := match b with | true => p | false => q
theorem condP_intro {b : Bool} {p q : Prop} (h : b = true → p) (g : b = false → q) : condP b p q := by cases b <;> simp_all [condP]
theorem condP_t {b : Bool} {p q : Prop} (h : b = true) (g : p) : condP b p q := by subst h; exact g
theorem condP_f {b : Bool} {p q : Prop} (h : b = false) (g : q) : condP b p q := by subst h; exact g

def obsP : List Prop → Prop → Prop
  | [], K => K
  | p :: r, K => p ∧ obsP r K
theorem obsP_iff : ∀ {l : List Prop} {K : Prop}, obsP l K → (∀ p ∈ l, p) ∧ K
  | [], _, h => ⟨by simp, h⟩
  | p :: r, K, h => by
    obtain ⟨h1, h2⟩ := h
    obtain ⟨h3, h4⟩ := obsP_iff h2
    exact ⟨fun q hq => by rcases List.mem_cons.1 hq with rfl | hq; exact h1; exact h3 q hq, h4⟩

/-- Hints: for single operations; for whole regions; for calls; by slots. `chain`: all && and || go on to their ends. -/
structure Hn where
  H : List (Nat × List (Nat × OH)) := []
  W : List (Nat × List WH) := []
  G : List (Nat × (List D → Option (AV × List Ob))) := []
  els : List (Nat × OH) := []
  chain : Bool := false
  free : List Nat := []
  mid : List (Nat × List (Nat × List WH)) := []

def slotHint (els : List (Nat × OH)) (t : Nat) : Option OH := match els with | [] => none | (u, h) :: r => if u = t then some h else slotHint r t
def callHint (G : List (Nat × (List D → Option (AV × List Ob)))) (f : Nat) : Option OH := match G with | [] => none | (u, g) :: r => if u = f then some (.fn g) else callHint r f
def opHint (h : Hn) (o : Oper) : Option OH :=
  match o.op with
  | .call c => match c.callee with
    | .value (.func f) => callHint h.G f
    | .value (.tmp t) => slotHint h.els t
    | _ => none
  | .indexAddr _ (.tmp t) _ => slotHint h.els t
  | .index _ (.tmp t) _ => slotHint h.els t
  | .load _ (.tmp t) => slotHint h.els t
  | .store _ (.tmp t) _ => slotHint h.els t
  | .convert _ _ (.tmp t) => slotHint h.els t
  | .alloc _ => match o.dst with | some d => slotHint h.els d | none => none
  | _ => none
def hasKey (hs : List (Nat × OH)) (i : Nat) : Bool := match hs with | [] => false | (j, _) :: r => if j = i then true else hasKey r i
def autoH (h : Hn) (hs : List (Nat × OH)) : Nat → List Oper → List (Nat × OH)
  | _, [] => []
  | i, o :: r => if hasKey hs i then autoH h hs (i + 1) r else match opHint h o with | some x => (i, x) :: autoH h hs (i + 1) r | none => autoH h hs (i + 1) r
/-- The operations on which others hang. -/
def guardsOf : List Oper → List (Nat × Bool)
  | [] => []
  | o :: r => match o.guard with | some (j, b) => (j, b) :: guardsOf r | none => guardsOf r
def wantOf (gs : List (Nat × Bool)) (i : Nat) : Option Bool := match gs with | [] => none | (j, b) :: r => if j = i then some b else wantOf r i
def autoG (hs : List (Nat × OH)) (gs : List (Nat × Bool)) : List Nat → List (Nat × Bool)
  | [] => []
  | i :: r => match wantOf gs i with
    | some b => if hasKey hs i then autoG hs gs r else (i, b) :: autoG hs gs r
    | none => autoG hs gs r

def wkT : List WH → AS → AS
  | [], S => S
  | w :: r, S => match wkE w S with | some S1 => wkT r S1 | none => wkT r S
theorem wkT_ok {k : Nat} : ∀ (l : List WH) (S : AS), Ent k S (wkT l S)
  | [], S => Ent.refl S
  | w :: r, S => by
    unfold wkT
    split
    · next S1 h1 => exact (wkE_ok h1).trans (wkT_ok r S1)
    · exact wkT_ok r S

def regW (P : Program) (ops : Array Oper) (draw : Bool) (S0 : AS) (K : AS → Prop) : List (Nat × Bool) → List (Nat × OH) → Nat → AS → Prop
  | [], hs, _, _ => match regEv P (FnOK P) ops draw hs S0 with | some (S', obs) => obsP obs (K S') | none => False
  | (j, _) :: r, hs, fr, Sc =>
    match runT P (FnOK P) ops hs (List.range' fr (j + 1 - fr)) Sc with
    | none => False
    | some (S1, _, _) =>
      match ops[j]? with
      | none => False
      | some o => match o.dst with
        | none => False
        | some d => match S1.E d with
          | .d (.bool b) => condP b
              (regW P ops draw S0 K r ((j, .val (.bool true)) :: hs) (j + 1) { S1 with E := upd S1.E d (.d (.bool true)) })
              (regW P ops draw S0 K r ((j, .val (.bool false)) :: hs) (j + 1) { S1 with E := upd S1.E d (.d (.bool false)) })
          | .raw (.tuple _) => regW P ops draw S0 K r hs (j + 1) S1
          | _ => False

theorem regW_ok {P : Program} {ops : Array Oper} {draw : Bool} {S0 : AS} {K : AS → Prop} : ∀ (js : List (Nat × Bool)) (hs : List (Nat × OH)) (fr : Nat) (Sc : AS), regW P ops draw S0 K js hs fr Sc →
    ∃ hs' S' obs, regEv P (FnOK P) ops draw hs' S0 = some (S', obs) ∧ (∀ p ∈ obs, p) ∧ K S'
  | [], hs, fr, Sc, h => by
    unfold regW at h
    split at h
    · next S' obs he => exact ⟨hs, S', obs, he, (obsP_iff h).1, (obsP_iff h).2⟩
    · exact h.elim
  | (j, w) :: r, hs, fr, Sc, h => by
    unfold regW at h
    split at h
    · exact h.elim
    split at h
    · exact h.elim
    split at h
    · exact h.elim
    split at h
    · next b hb =>
      cases b
      · exact regW_ok r _ _ _ h
      · exact regW_ok r _ _ _ h
    · exact regW_ok r _ _ _ h
    · exact h.elim

/-- Operations one by one, the state told anew between them (never where the order is drawn). -/
def runM (P : Program) (F : FnRel) (ops : Array Oper) (hs : List (Nat × OH)) (mid : List (Nat × List WH)) : List Nat → AS → Option (AS × List Prop)
  | [], S => some (S, [])
  | i :: r, S =>
    match stepOp P F ops hs i (match mid.lookup i with | some ws => wkT ws S | none => S) with
    | some (S1, ob, _) =>
      match runM P F ops hs mid r S1 with
      | some (S2, obs) => some (S2, ob ++ obs)
      | none => none
    | none => none
theorem mid_ok {k : Nat} (mid : List (Nat × List WH)) (i : Nat) (S : AS) : Ent k S (match mid.lookup i with | some ws => wkT ws S | none => S) := by
  split
  · exact wkT_ok _ _
  · exact Ent.refl _
theorem runM_ok {P : Program} {ops : Array Oper} {hs : List (Nat × OH)} {mid : List (Nat × List WH)} {k : Nat} {Q : Exit → Act → World → Prop} : ∀ (L : List Nat) {S S' : AS} {obs : List Prop} {β : Nat → HE} {X : Nat → Prop} {a : Act} {w : World}, runM P (FnOK P) ops hs mid L S = some (S', obs) → (∀ p ∈ obs, p) → Rel S β X a w →
    (∀ a' w' β', Rel S' β' X a' w' → StepK k S.O S'.O β β' w w' → Q .normal a' w') → wpOps P ops Q L a w
  | [], S, S', obs, β, X, a, w, h, hob, hR, hQ => by
    simp only [runM, Option.some.injEq, Prod.mk.injEq] at h
    obtain ⟨rfl, -⟩ := h
    exact hQ a w β hR (StepK.refl _ _ _ _)
  | i :: r, S, S', obs, β, X, a, w, h, hob, hR, hQ => by
    unfold runM at h
    have hE := mid_ok (k := k) mid i S
    generalize (match mid.lookup i with | some ws => wkT ws S | none => S) = S0 at h hE
    obtain ⟨β0, hR0, hs0⟩ := hE β X a w hR
    split at h
    · next S1 ob f h1 =>
      split at h
      · next S2 obs2 h2 =>
        simp only [Option.some.injEq, Prod.mk.injEq] at h
        obtain ⟨rfl, rfl⟩ := h
        have hob1 : ∀ p ∈ ob, p := fun p hp => hob p (List.mem_append_left _ hp)
        have hob2 : ∀ p ∈ obs2, p := fun p hp => hob p (List.mem_append_right _ hp)
        unfold stepOp at h1
        simp only [wpOps]
        split at h1
        · cases h1
        · next o ho =>
          rw [ho]
          simp only
          split at h1
          · next hdo =>
            have hd : ∀ d, o.dst = some d → d < S0.nt := fun d hd => by rw [hd] at hdo; simpa [dstOK] using hdo
            split at h1
            · next hrun =>
              rw [wanted_true hR0 hrun]
              simp only [if_true]
              split at h1
              · next e he =>
                simp only [Option.some.injEq, Prod.mk.injEq] at h1
                obtain ⟨rfl, rfl, -⟩ := h1
                refine .inl (act_ok hR0 he hob1 fun v w' β' hdone => ?_)
                exact runM_ok r h2 hob2 (rel_after hR0 hd hdone) fun a' w2 β2 hR2 hs2 => hQ a' w2 β2 hR2 (hs0.trans ((hdone.step.toK k).trans hs2))
              · cases h1
            · next hrun =>
              rw [wanted_true hR0 hrun]
              simp only [Bool.false_eq_true, if_false]
              simp only [Option.some.injEq, Prod.mk.injEq] at h1
              obtain ⟨rfl, rfl, -⟩ := h1
              exact runM_ok r h2 hob2 (rel_after (e := ⟨.raw undef, [], []⟩) hR0 hd ⟨.raw _, hR0.objs, Step.refl _ _ _⟩) fun a' w2 β2 hR2 hs2 => hQ a' w2 β2 hR2 (hs0.trans hs2)
            · cases h1
          · cases h1
      · cases h
    · cases h

/-! ### Two states made to fit -/
mutual
def unifAV : AV → AV → List (Nat × Nat)
  | .ptr o _, .ptr o' _ => [(o, o')]
  | .rptr o _ _ _, .rptr o' _ _ _ => [(o, o')]
  | .own o _, .own o' _ => [(o, o')]
  | .sub o _ _ _, .sub o' _ _ _ => [(o, o')]
  | .agg l, .agg m => unifL l m
  | .tup l, .tup m => unifL l m
  | .fn _ l, .fn _ m => unifL l m
  | .meth _ l, .meth _ m => unifL l m
  | _, _ => []
def unifL : List AV → List AV → List (Nat × Nat)
  | a :: l, b :: m => unifAV a b ++ unifL l m
  | _, _ => []
end
def unifE (S : AS) : List (Nat × AV) → List (Nat × Nat)
  | [] => []
  | (t, x) :: r => unifAV x (S.E t) ++ unifE S r
def unifO (S : AS) (ρ : List (Nat × Nat)) : List (Nat × Ob) → List (Nat × Nat)
  | [] => []
  | (n, .box l) :: r => (match S.O (renOf ρ n) with | .box m => unifL l m | _ => []) ++ unifO S ρ r
  | _ :: r => unifO S ρ r

/-- Ways to tell slot `t` as the pattern wants it. -/
def fixW (S : AS) (t : Nat) (x : AV) : List WH :=
  match x with
  | .own n sz => [.nilrow t (900 + n) sz]
  | .d (.sl _) => .nild t :: (match S.E t with | .own o _ => [WH.freeze o] | .sub o _ _ _ => [WH.freeze o] | _ => [])
  | .d (.agg _) => (S.E t).names.map WH.freeze
  | .tup l => (match S.E t with | .tup m => (List.zip l m).flatMap (fun p => match p.1 with | .d _ => p.2.names.map WH.freeze | _ => []) | _ => [])
  | _ => []
def fixWs (S : AS) : List (Nat × AV) → List WH
  | [] => []
  | (t, x) :: r => fixW S t x ++ fixWs S r

/-- A nil slice within a struct, a tuple as plain data. -/
def nilsL (f : AV → AV) : List AV → List AV
  | [] => []
  | c :: r => f c :: nilsL f r
def nil1 : AV → AV
  | .raw (.slice none 0 0) => .d (.sl [])
  | x => x
def nil2 : AV → AV
  | .raw (.slice none 0 0) => .d (.sl [])
  | .agg cs => mkAgg (nilsL nil1 cs)
  | x => x
def nilsAV : AV → AV
  | .agg cs => mkAgg (nilsL nil1 cs)
  | .tup cs => .tup (nilsL nil2 cs)
  | x => x

section
variable {w : World} {M : Nat → Prop} {β : Nat → HE} {C : Nat → Prop}
theorem nilsL_get {f : AV → AV} {cs : List AV} {j : Nat} : (nilsL f cs)[j]? = (cs[j]?).map f := by
  induction cs generalizing j with
  | nil => rfl
  | cons c r ih =>
    cases j with
    | zero => rfl
    | succ j => simp only [nilsL, List.getElem?_cons_succ]; exact ih
theorem nilsL_len {f : AV → AV} {cs : List AV} : (nilsL f cs).length = cs.length := by
  induction cs with
  | nil => rfl
  | cons c r ih => simp [nilsL, ih]
theorem nil1_ok {x : AV} {v : Value} (h : RAV w M β C x v) : RAV w M β C (nil1 x) v := by
  unfold nil1
  split
  · rw [h.raw_inv]; exact .d _ _ (.nil _ _)
  · exact h
theorem nilsAgg_ok {cs : List AV} {v : Value} (h : RAV w M β C (.agg cs) v) : RAV w M β C (mkAgg (nilsL nil1 cs)) v := by
  cases h with
  | agg _ vs hl hr =>
    refine mkAgg_ok (by rw [nilsL_len]; exact hl) fun j y hj => ?_
    rw [nilsL_get] at hj
    cases hx : cs[j]? with
    | none => rw [hx] at hj; cases hj
    | some z => rw [hx] at hj; cases hj; exact nil1_ok (hr j z hx)
theorem nil2_ok {x : AV} {v : Value} (h : RAV w M β C x v) : RAV w M β C (nil2 x) v := by
  unfold nil2
  split
  · rw [h.raw_inv]; exact .d _ _ (.nil _ _)
  · exact nilsAgg_ok h
  · exact h
theorem nilsAV_ok {x : AV} {v : Value} (h : RAV w M β C x v) : RAV w M β C (nilsAV x) v := by
  unfold nilsAV
  split
  · exact nilsAgg_ok h
  · next cs =>
    cases h with
    | tup _ vs hl hr =>
      refine .tup _ _ (by rw [nilsL_len]; exact hl) fun j y hj => ?_
      rw [nilsL_get] at hj
      cases hx : cs[j]? with
      | none => rw [hx] at hj; cases hj
      | some z => rw [hx] at hj; cases hj; exact nil2_ok (hr j z hx)
  · exact h
end
def nilsAt (ts : List Nat) (S : AS) : AS := { S with E := fun t => if ts.contains t then nilsAV (S.E t) else S.E t }
theorem nilsAt_ok {k : Nat} (ts : List Nat) (S : AS) : Ent k S (nilsAt ts S) := fun β X a w hR => by
  refine ⟨β, ⟨hR.size, hR.defers, fun t => ?_, hR.objs⟩, StepK.refl _ _ _ _⟩
  show RAV w _ _ _ (if ts.contains t then nilsAV (S.E t) else S.E t) _
  split
  · exact nilsAV_ok (hR.slots t)
  · exact hR.slots t
/-- Slots whose pattern is wholly plain data, but for names. -/
def dataSlots : List (Nat × AV) → List Nat
  | [] => []
  | (t, .d (.agg _)) :: r => t :: dataSlots r
  | (t, .tup _) :: r => t :: dataSlots r
  | _ :: r => dataSlots r

/-- The state as the pattern wants it. -/
def fitS (ws : List WH) (S : AS) (s : St) : AS :=
  let S0 := wkT ws S
  let S1 := wkT (fixWs S0 s.E) S0
  nilsAt (dataSlots s.E) S1
theorem fitS_ok {k : Nat} (ws : List WH) (S : AS) (s : St) : Ent k S (fitS ws S s) := (wkT_ok _ _).trans ((wkT_ok _ _).trans (nilsAt_ok _ _))
theorem wkT_nt : ∀ (l : List WH) (S : AS), (wkT l S).nt = S.nt
  | [], S => rfl
  | x :: r, S => by
    unfold wkT
    split
    · next S1 h2 =>
      rw [wkT_nt r]
      cases x <;> simp only [wkE] at h2 <;> (repeat' split at h2) <;> first | (cases h2; done) | (cases h2; rfl)
    · exact wkT_nt r S
theorem fitS_nt (ws : List WH) (S : AS) (s : St) : (fitS ws S s).nt = S.nt := by
  show (wkT _ _).nt = S.nt
  rw [wkT_nt, wkT_nt]
def fitρ (ρ : List (Nat × Nat)) (S : AS) (s : St) : List (Nat × Nat) :=
  let r1 := ρ ++ unifE S s.E
  let r2 := r1 ++ unifO S r1 s.O
  r2 ++ unifO S r2 s.O
def fit (k : Nat) (ws : List WH) (ρ : List (Nat × Nat)) (S : AS) (s : St) : Option (List Prop) :=
  let S' := fitS ws S s
  entail k [] (fitρ ρ S' s) S' s
theorem fit_ok {k : Nat} {ws : List WH} {ρ : List (Nat × Nat)} {S : AS} {s : St} {obs : List Prop} (h : fit k ws ρ S s = some obs) (hob : ∀ p ∈ obs, p) : Ent k S (s.as S.nt) := by
  unfold fit at h
  have h1 := entail_ok h hob
  rw [fitS_nt] at h1
  exact (fitS_ok ws S s).trans h1

/-! ### The walk -/

def LoopsS (P : Program) (k : Nat) (c : Code) (pre : St) (e : Exit) (post : St) (nt : Nat) : Prop := Loops P k c (pre.as nt) e (post.as nt)

def PassesS (P : Program) (k : Nat) (l : Nat) (c : Code) (pre : St) (e : Exit) (post : St) (nt : Nat) : Prop := Passes P k l c (pre.as nt) e (post.as nt)
def scopesIn : Code → List Code
  | .seq x y => scopesIn x ++ scopesIn y
  | .cond _ x y => scopesIn x ++ scopesIn y
  | .block _ c => scopesIn c
  | .scope c => c :: scopesIn c
  | .loop c => scopesIn c
  | .rangeFunc _ _ c d => scopesIn c ++ scopesIn d
  | _ => []
/-- What stands behind a label of a function's text. -/
def restOf (P : Program) (f : FuncId) (l : Nat) : Code :=
  match P.funcs[f]? with
  | some fn => match fn.body with
    | some c => match (scopesIn c).findSome? (fun s => findLabel s l) with | some x => x | none => .skip
    | none => .skip
  | none => .skip

def wpC (P : Program) (k : Nat) (h : Hn) : Code → List Sub → AS → (List Sub → Exit → AS → Prop) → Prop
  | .skip, m, S, K => K m .normal S
  | .label _, m, S, K => K m .normal S
  | .exit id, m, S, K => K m (.exit id) S
  | .goto l, m, S, K => K m (.goto l) S
  | .ret, m, S, K => K m .ret S
  | .region id ops draw, m, S, K =>
    let S1 := match h.W.lookup id with | some ws => wkT ws S | none => S
    let hs0 := hintsOf h.H id
    let gs := guardsOf ops.toList
    let ws := autoG hs0 gs (List.range ops.size)
    let hs1 := hs0 ++ autoH h hs0 0 ops.toList
    match (if draw then none else h.mid.lookup id) with
    | some md =>
      match runM P (FnOK P) ops (ws.map (fun p => (p.1, OH.val (.bool p.2))) ++ hs1) md (List.range ops.size) S1 with
      | some (S', obs) => obsP obs (K m .normal S')
      | none => False
    | none =>
    if h.chain && !h.free.contains id then
      match regEv P (FnOK P) ops draw (ws.map (fun p => (p.1, OH.val (.bool p.2))) ++ hs1) S1 with
      | some (S', obs) => obsP obs (K m .normal S')
      | none => False
    else regW P ops draw S1 (K m .normal) ws hs1 0 S1
  | .seq x y, m, S, K => wpC P k h x m S fun m1 e S1 => match e with
    | .normal => wpC P k h y m1 S1 K
    | e => K m1 e S1
  | .cond c x y, m, S, K => match S.ev c with
    | .d (.bool b) => condP b (wpC P k h x m S K) (wpC P k h y m S K)
    | _ => False
  | .block id c, m, S, K => wpC P k h c m S fun m1 e S1 => K m1 (blockExit id e) S1
  | .loop c, m, S, K => match m with
    | s :: r => match fit k s.ws s.ρ S s.pre with
      | some obs => obsP obs (LoopsS P k c s.pre s.e s.post S.nt ∧ K r s.e (s.post.as S.nt))
      | none => False
    | [] => False
  | .scope c, m, S, K => wpC P k h c m S fun m1 e S1 => match e with
    | .goto l => match m1 with
      | s :: r => match findLabel c l with
        | some rest => match fit k s.ws s.ρ S1 s.pre with
          | some obs => obsP obs (PassesS P k l rest s.pre s.e s.post S1.nt ∧ K r s.e (s.post.as S1.nt))
          | none => False
        | none => False
      | [] => False
    | e => K m1 e S1
  | _, _, _, _ => False

section
variable {P : Program} {k : Nat}

def Out (k : Nat) (S : AS) (β : Nat → HE) (X : Nat → Prop) (w : World) (K : List Sub → Exit → AS → Prop) (e : Exit) (a' : Act) (w' : World) : Prop :=
  ∃ m' S', K m' e S' ∧ ∃ β', Rel S' β' X a' w' ∧ StepK k S.O S'.O β β' w w'

theorem Out.of {S S1 : AS} {β β1 : Nat → HE} {X : Nat → Prop} {w w1 : World} {K : List Sub → Exit → AS → Prop} {e : Exit} {a' : Act} {w' : World} (h : StepK k S.O S1.O β β1 w w1) (g : Out k S1 β1 X w1 K e a' w') : Out k S β X w K e a' w' := by
  obtain ⟨m', S', h1, β', h2, h3⟩ := g
  exact ⟨m', S', h1, β', h2, h.trans h3⟩

theorem Passes.arrives {l : Nat} {c rest : Code} (hf : findLabel c l = some rest) (b : Frame) (kk : List Item) (cs : List Frame) : ∀ {S S' : AS} {e : Exit}, Passes P k l rest S e S' → ∀ β X a w, Rel S β X a w →
    ∃ e' a' w', (e' = e ∧ ∃ β', Rel S' β' X a' w' ∧ StepK k S.O S'.O β β' w w') ∧ Arrives P (lone (b.at a (.code rest :: .inScope c :: kk)) cs w) b kk cs e' a' w' := by
  have hg : gotoIn l (.inScope c :: kk) = some (.code rest :: .inScope c :: kk) := by simp [gotoIn, hf]
  intro S S' e h
  induction h with
  | @out S S' e h he =>
    intro β X a w hR
    obtain ⟨e', a', w', hq, harr⟩ := h β X a w hR b (.inScope c :: kk) cs
    refine ⟨e', a', w', hq, ?_⟩
    cases e' with
    | normal => exact Steps.trans harr (.one step_inScope)
    | exit id => exact fun k' hk => harr k' (by simp [exitTo, hk])
    | goto l' => exact absurd hq.1.symm (he l')
    | ret => exact harr
    | panic ch => exact harr
    | outgrown => exact harr
  | @next S S1 S' e h r ih =>
    intro β X a w hR
    obtain ⟨e', a', w', ⟨he', β', hR', hs⟩, harr⟩ := h β X a w hR b (.inScope c :: kk) cs
    subst he'
    obtain ⟨e2, a2, w2, ⟨he2, β2, hR2, hs2⟩, harr2⟩ := ih β' X a' w' hR'
    exact ⟨e2, a2, w2, ⟨he2, β2, hR2, hs.trans hs2⟩, .of_steps (harr _ hg) harr2⟩

theorem wpC_ok {h : Hn} : ∀ {c : Code} {m : List Sub} {S : AS} {K : List Sub → Exit → AS → Prop}, wpC P k h c m S K → ∀ β X a w, Rel S β X a w → c.wp P (Out k S β X w K) a w := by
  intro c
  induction c with
  | skip => intro m S K h β X a w hR; exact wp_skip ⟨m, S, h, β, hR, StepK.refl _ _ _ _⟩
  | label l => intro m S K h β X a w hR; exact wp_label ⟨m, S, h, β, hR, StepK.refl _ _ _ _⟩
  | exit id => intro m S K h β X a w hR; exact wp_exit ⟨m, S, h, β, hR, StepK.refl _ _ _ _⟩
  | goto l => intro m S K h β X a w hR; exact wp_goto ⟨m, S, h, β, hR, StepK.refl _ _ _ _⟩
  | ret => intro m S K h β X a w hR; exact wp_ret ⟨m, S, h, β, hR, StepK.refl _ _ _ _⟩
  | region id ops draw =>
    intro m S K hw β X a w hR
    have keyM : ∀ (S1 S' : AS) (hs' : List (Nat × OH)) (md : List (Nat × List WH)) (obs : List Prop), draw = false → Ent k S S1 → runM P (FnOK P) ops hs' md (List.range ops.size) S1 = some (S', obs) → obsP obs (K m .normal S') → (Code.region id ops draw).wp P (Out k S β X w K) a w := by
      intro S1 S' hs' md obs hdr hE h1 h2
      subst hdr
      obtain ⟨β1, hR1, hs1⟩ := hE β X a w hR
      refine wp_region ?_
      exact runM_ok (k := k) _ h1 (obsP_iff h2).1 hR1 fun a' w' β' hR' hst => ⟨m, S', (obsP_iff h2).2, β', hR', hs1.trans hst⟩
    have key : ∀ S1 : AS, Ent k S S1 → (∃ hs' S' obs, regEv P (FnOK P) ops draw hs' S1 = some (S', obs) ∧ (∀ p ∈ obs, p) ∧ K m .normal S') → (Code.region id ops draw).wp P (Out k S β X w K) a w := by
      rintro S1 hE ⟨hs', S', obs, h1, h2, h3⟩
      obtain ⟨β1, hR1, hs1⟩ := hE β X a w hR
      exact region_ok h1 h2 hR1 fun a' w' β' hR' hst => ⟨m, S', h3, β', hR', hs1.trans (hst.toK k)⟩
    simp only [wpC] at hw
    have hE : Ent k S (match h.W.lookup id with | some ws => wkT ws S | none => S) := by
      split
      · exact wkT_ok _ _
      · exact Ent.refl _
    generalize (match h.W.lookup id with | some ws => wkT ws S | none => S) = S1 at hw hE
    split at hw
    · next md hmd =>
      have hdr : draw = false := by cases draw <;> simp_all
      split at hw
      · next S' obs he => exact keyM S1 S' _ md obs hdr hE he hw
      · exact hw.elim
    · refine key S1 hE ?_
      split at hw
      · split at hw
        · next S' obs he => exact ⟨_, S', obs, he, (obsP_iff hw).1, (obsP_iff hw).2⟩
        · exact hw.elim
      · exact regW_ok _ _ _ _ hw
  | seq x y ihx ihy =>
    intro m S K hw β X a w hR
    simp only [wpC] at hw
    refine wp_seq (wp_mono (ihx hw β X a w hR) fun e a' w' ⟨m', S', h1, β', h2, h3⟩ => ?_)
    cases e with
    | normal => exact wp_mono (ihy h1 β' X a' w' h2) fun e2 a2 w2 g => g.of h3
    | _ => exact then_abrupt (by simp) ⟨m', S', h1, β', h2, h3⟩
  | cond c x y ihx ihy =>
    intro m S K hw β X a w hR
    simp only [wpC] at hw
    split at hw
    · next b hb =>
      have h1 := ev_ok hR c
      rw [hb] at h1
      refine wp_cond h1.d_inv.bool_inv ?_
      cases b
      · exact ihy hw β X a w hR
      · exact ihx hw β X a w hR
    · exact hw.elim
  | block id c ih =>
    intro m S K hw β X a w hR
    simp only [wpC] at hw
    refine wp_block (wp_mono (ih hw β X a w hR) fun e a' w' ⟨m', S', h1, h2⟩ => ?_)
    cases e with
    | exit id' =>
      simp only [Exit.inBlock, blockExit] at h1 ⊢
      split
      · next he => rw [if_pos he] at h1; exact ⟨m', S', h1, h2⟩
      · next he => rw [if_neg he] at h1; exact ⟨m', S', h1, h2⟩
    | _ => exact ⟨m', S', h1, h2⟩
  | loop c ih =>
    intro m S K hw β X a w hR
    simp only [wpC] at hw
    split at hw
    · next s r =>
      split at hw
      · next obs he =>
        obtain ⟨h1, h2, h3⟩ := obsP_iff hw
        obtain ⟨β1, hR1, hs1⟩ := fit_ok he h1 β X a w hR
        exact wp_mono (Loops.runs h2 β1 X a w hR1) fun e a' w' ⟨he, β2, hR2, hs2⟩ => he ▸ ⟨r, _, h3, β2, hR2, hs1.trans hs2⟩
      · exact hw.elim
    · exact hw.elim
  | scope c ih =>
    intro m S K hw β X a w hR b kk cs
    simp only [wpC] at hw
    obtain ⟨e, a1, w1, ⟨m', S', h1, β', h2, h3⟩, harr⟩ := ih hw β X a w hR b (.inScope c :: kk) cs
    cases e with
    | normal => exact ⟨.normal, a1, w1, ⟨m', S', h1, β', h2, h3⟩, .head step_scope (Steps.trans harr (.one step_inScope))⟩
    | exit id => exact ⟨.exit id, a1, w1, ⟨m', S', h1, β', h2, h3⟩, fun k' hk => .head step_scope (harr k' (by simp [exitTo, hk]))⟩
    | ret => exact ⟨_, a1, w1, ⟨m', S', h1, β', h2, h3⟩, .of_steps (.one step_scope) harr⟩
    | panic ch => exact ⟨_, a1, w1, ⟨m', S', h1, β', h2, h3⟩, .of_steps (.one step_scope) harr⟩
    | outgrown => exact ⟨_, a1, w1, ⟨m', S', h1, β', h2, h3⟩, .of_steps (.one step_scope) harr⟩
    | goto l =>
      simp only at h1
      split at h1
      · next s r =>
        split at h1
        · next rest hf =>
          split at h1
          · next obs he =>
            obtain ⟨g1, g2, g3⟩ := obsP_iff h1
            obtain ⟨β1, hR1, hs1⟩ := fit_ok he g1 β' X a1 w1 h2
            obtain ⟨e2, a2, w2, ⟨he2, β2, hR2, hs2⟩, harr2⟩ := Passes.arrives hf b kk cs g2 β1 X a1 w1 hR1
            have hg : gotoIn l (.inScope c :: kk) = some (.code rest :: .inScope c :: kk) := by simp [gotoIn, hf]
            subst he2
            exact ⟨_, a2, w2, ⟨r, _, g3, β2, hR2, h3.trans (hs1.trans hs2)⟩, .of_steps (.head step_scope (harr _ hg)) harr2⟩
          · exact h1.elim
        · exact h1.elim
      · exact h1.elim
  | rangeFunc f ts c d ihc ihd => intro m S K hw; simp only [wpC] at hw
  | refuse s => intro m S K hw; simp only [wpC] at hw

/-! ### Functions, rounds -/

def finF (P : Program) (fn : Func) (k : Nat) (ws : List WH) (ρ : List (Nat × Nat)) (rv : AV) (outs : List Ob) (e : Exit) (S : AS) : Prop :=
  if okExit e = true then
    match resVs P S fn.results.toList with
    | none => False
    | some (l, o2) =>
      match fit k ws ρ { E := upd (fun _ => .dead) 0 (joined l), O := S.O, nt := 1 } ⟨[(0, rv)], numbered 0 outs⟩ with
      | none => False
      | some o3 => obsP (o2 ++ o3) True
  else False
def wpF (P : Program) (f : FuncId) (h : Hn) (subs : List Sub) (ws : List WH) (ρ : List (Nat × Nat)) (args : List AV) (ins : List Ob) (rv : AV) (outs : List Ob) : Prop :=
  match P.funcs[f]? with
  | none => False
  | some fn => match fn.body with
    | none => False
    | some c =>
      if (fn.name == "runtime.NumGoroutine") = false ∧ fn.results.toList.length ≤ 5 then
        wpC P ins.length h c subs { E := entryE args, O := Oof ins, nt := args.length + (fn.ntmps - args.length) } fun _ e S => finF P fn ins.length ws ρ rv outs e S
      else False

theorem fnOK_wp {f : FuncId} {h : Hn} {subs : List Sub} {ws : List WH} {ρ : List (Nat × Nat)} {args : List AV} {ins : List Ob} {rv : AV} {outs : List Ob} {p : Prop}
    (he : wpF P f h subs ws ρ args ins rv outs = p) (hp : p) : FnOK P f args ins rv outs := by
  subst he
  unfold wpF at hp
  split at hp
  · exact hp.elim
  next fn hf =>
  split at hp
  · exact hp.elim
  next c hc =>
  split at hp
  case isFalse => exact hp.elim
  next hname =>
  obtain ⟨hname, h5⟩ := hname
  refine ⟨⟨fn, hf, by simp [hc], hname⟩, fun w X β vs hO hvs => calls_of_wp hf hc ?_⟩
  obtain ⟨hlen, hvs⟩ := hvs
  have hR0 : Rel { E := entryE args, O := Oof ins, nt := args.length + (fn.ntmps - args.length) } β X { tmps := vs ++ Array.replicate (fn.ntmps - vs.size) undef, defers := [] } w := by
    refine ⟨by simp [hlen], rfl, fun t => ?_, hO⟩
    show RAV w _ _ _ (entryE args t) _
    unfold entryE
    split
    · next x hx =>
      have hlt := (List.getElem?_eq_some_iff.1 hx).1
      have h1 := hvs t x hx
      have h2 : (vs ++ Array.replicate (fn.ntmps - vs.size) undef).getD t undef = vs.getD t undef := by
        simp only [Array.getD_eq_getD_getElem?]
        rw [Array.getElem?_append_left (by omega)]
      show RAV w _ _ _ x ((vs ++ Array.replicate (fn.ntmps - vs.size) undef).getD t undef)
      rw [h2]
      exact h1
    · exact .dead _
  refine wp_mono (wpC_ok hp β X _ w hR0) fun e' a' w' ⟨m', S, hfin, β1, hR1, hs1⟩ => ?_
  unfold finF at hfin
  dsimp only at hfin
  split at hfin
  case isFalse => exact hfin.elim
  next hex =>
  split at hfin
  · exact hfin.elim
  next l o2 hres =>
  split at hfin
  · exact hfin.elim
  next o3 hent =>
  have hob := (obsP_iff hfin).1
  obtain ⟨us, k1, k2, k3, k4⟩ := resVs_ok hR1 hres fun p hp => hob p (List.mem_append_left _ hp)
  have hrun := results_of k1 h5 k3
  have hR2 : Rel { E := upd (fun _ => .dead) 0 (joined l), O := S.O, nt := 1 } β1 X { tmps := #[joinedV us], defers := [] } w' := by
    refine ⟨rfl, rfl, fun t => ?_, hR1.objs⟩
    by_cases ht : t = 0
    · subst ht
      show RAV w' _ _ _ (upd (fun _ => .dead) 0 (joined l) 0) _
      rw [upd_same]
      exact joined_ok (k2.trans k1.symm) k4
    · show RAV w' _ _ _ (upd (fun _ => .dead) 0 (joined l) t) _
      rw [upd_other _ _ ht]
      exact .dead _
  obtain ⟨β2, hR3, hs2⟩ := fit_ok hent (fun p hp => hob p (List.mem_append_right _ hp)) β1 X _ w' hR2
  have h0 : (St.as ⟨[(0, rv)], numbered 0 outs⟩ 1).O = Oof outs := by
    funext n
    show lookO (numbered 0 outs) n = _
    rw [numbered_look]
    simp
  have hAR : AR (Oof outs) β2 X w' rv (joinedV us) := by
    have := hR3.slots 0
    rw [h0] at this
    exact this
  have hObj : Objs (Oof outs) β2 X w' := by
    have := hR3.objs
    rw [h0] at this
    exact this
  have hstep := hs1.trans hs2
  have hst : Step (Oof ins) (Oof outs) β β2 w w' := by
    refine ⟨hstep.evo, fun o ho => ?_, hstep.new⟩
    have hlt : o < ins.length := by
      rcases Nat.lt_or_ge o ins.length with h | h
      · exact h
      · exfalso
        apply ho
        simp [Oof, List.getElem?_eq_none h]
    have := hstep.keep o hlt ho
    rw [h0] at this
    exact this
  have hdone : a'.defers = [] ∧ ∃ v, (results fn a'.tmps).run P w' = .ok v w' ∧ ∃ v' β', Ending.returned v = .returned v' ∧ AR (Oof outs) β' X w' rv v' ∧ Objs (Oof outs) β' X w' ∧ Step (Oof ins) (Oof outs) β β' w w' :=
    ⟨hR1.defers, _, hrun, _, β2, rfl, hAR, hObj, hst⟩
  cases e' with
  | normal => exact hdone
  | ret => exact hdone
  | _ => simp [okExit] at hex

def wpR (P : Program) (k : Nat) (c : Code) (nt : Nat) (h : Hn) (subs : List Sub) (ws : List WH) (ρ : List (Nat × Nat)) (pre : St) (e : Exit) (post : St) : Prop :=
  wpC P k h c subs (pre.as nt) fun _ e' S =>
    if exitEq e' e = true ∧ S.nt = nt then
      match fit k ws ρ S post with
      | none => False
      | some o => obsP o True
    else False
theorem round_wp {c : Code} {nt : Nat} {h : Hn} {subs : List Sub} {ws : List WH} {ρ : List (Nat × Nat)} {pre : St} {e : Exit} {post : St} {p : Prop}
    (he : wpR P k c nt h subs ws ρ pre e post = p) (hp : p) : Runs P k c (pre.as nt) e (post.as nt) := by
  subst he
  intro β X a w hR
  refine wp_mono (wpC_ok hp β X a w hR) fun e' a' w' ⟨m', S, hfin, β1, hR1, hs1⟩ => ?_
  dsimp only at hfin
  split at hfin
  case isFalse => exact hfin.elim
  next hex =>
  split at hfin
  · exact hfin.elim
  next o hent =>
  obtain ⟨β2, hR3, hs2⟩ := fit_ok hent (obsP_iff hfin).1 β1 X a' w' hR1
  rw [hex.2] at hR3 hs2
  exact ⟨exitEq_eq hex.1, β2, hR3, hs1.trans hs2⟩

/-- Passes that are counted. -/
theorem passes_n {l : Nat} {c : Code} {I : Nat → AS} {e : Exit} {S' : AS} (he : ∀ l, e ≠ .goto l) (n : Nat) (i : Nat) (hi : i ≤ n) (h : ∀ j, i ≤ j → j < n → Runs P k c (I j) (.goto l) (I (j + 1))) (g : Runs P k c (I n) e S') : Passes P k l c (I i) e S' := by
  obtain ⟨d, rfl⟩ : ∃ d, n = i + d := ⟨n - i, by omega⟩
  induction d generalizing i with
  | zero => exact .out g he
  | succ d ih =>
    refine .next (h i (Nat.le_refl _) (by omega)) ?_
    exact ih (i + 1) (by omega) (fun j h1 h2 => h j (by omega) (by omega)) (by rw [show i + 1 + d = i + (d + 1) by omega]; exact g)
/-- Rounds that are counted: `n` of them, and the last way out. -/
theorem loops_n {c : Code} {I : Nat → AS} {e : Exit} {S' : AS} (he : e ≠ .normal) (n : Nat) (i : Nat) (hi : i ≤ n) (h : ∀ j, i ≤ j → j < n → Runs P k c (I j) .normal (I (j + 1))) (g : Runs P k c (I n) e S') : Loops P k c (I i) e S' := by
  obtain ⟨d, rfl⟩ : ∃ d, n = i + d := ⟨n - i, by omega⟩
  induction d generalizing i with
  | zero => exact .out g he
  | succ d ih =>
    refine .next (h i (Nat.le_refl _) (by omega)) ?_
    have := ih (i + 1) (by omega) (fun j h1 h2 => h j (by omega) (by omega)) (by rw [show i + 1 + d = i + (d + 1) by omega]; exact g)
    exact this
end
end Sx
end Go.Proofs.Ytfllhedkgeljaaa
