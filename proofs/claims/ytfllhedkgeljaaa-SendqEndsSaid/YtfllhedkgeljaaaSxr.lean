/-
Arguments that came in, read as plain data by their types. Condition: the types are made of integers, bools, strings, slices, structs, arrays.
-/
import Derived.Test.YtfllhedkgeljaaaSxq
import Derived.ProofKit
import Derived.OpenShut
set_option linter.unusedSimpArgs false
set_option linter.unusedVariables false
namespace Go.Proofs.Ytfllhedkgeljaaa
namespace Sx
open Go.RowKit Go.ChangeAt

/-- What one cell of plain data holds. -/
inductive CK where
  | int (k : IntKind)
  | bool
  | str
  | sl (ag : Bool) (e : List CK)

mutual
def CK.has : CK → D → Prop
  | .int k, d => ∃ n, d = .int k n ∧ (Lit.int k n).wf = true
  | .bool, d => ∃ b, d = .bool b
  | .str, d => ∃ s, d = .str s ∧ s.length ≤ maxLen
  | .sl ag e, d => ∃ es, d = .sl es ∧ es.length ≤ maxLen ∧ ∀ x ∈ es, ∃ cs, CK.hasL e cs ∧ (if ag then x = .agg cs else cs = [x])
def CK.hasL : List CK → List D → Prop
  | [], ds => ds = []
  | c :: r, ds => ∃ d l, ds = d :: l ∧ c.has d ∧ CK.hasL r l
end

/-- A type's cells; is it of several cells? The fields must lie one behind the other. -/
def shFs (cellsOf : TypeId → Nat) (sh : TypeId → Option (Bool × List CK)) : Nat → List Field → Option (List CK)
  | _, [] => some []
  | off, f :: r => match sh f.type with
    | some (_, k) => if f.offset = off ∧ cellsOf f.type = k.length then match shFs cellsOf sh (off + k.length) r with | some l => some (k ++ l) | none => none else none
    | none => none
def repL : Nat → List CK → List CK
  | 0, _ => []
  | n + 1, k => k ++ repL n k
def shape (P : Program) : Nat → TypeId → Option (Bool × List CK)
  | 0, _ => none
  | n + 1, T => match P.underlying T with
    | some .bool => some (false, [.bool])
    | some (.int k) => some (false, [.int k])
    | some .string => some (false, [.str])
    | some (.slice e) => match shape P n e with
      | some (ag, l) => if P.cellsOf e = l.length ∧ (ag = true ∨ l.length = 1) ∧ 0 < l.length then some (false, [.sl ag l]) else none
      | none => none
    | some (.struct fs) => match shFs P.cellsOf (shape P n) 0 fs.toList with
      | some l => if P.cellsOf T = l.length then some (true, l) else none
      | none => none
    | some (.array m e) => match shape P n e with
      | some (_, l) => if P.cellsOf e = l.length ∧ P.cellsOf T = m * l.length then some (true, repL m l) else none
      | none => none
    | _ => none

def RepL (w : World) (ds : List D) (cs : List Value) : Prop := ds.length = cs.length ∧ ∀ (j : Nat) (d : D), ds[j]? = some d → d.one = true ∧ RepD w (fun _ => False) d (cs.getD j undef)

theorem hasL_append {a b : List CK} {x y : List D} (hx : CK.hasL a x) (hy : CK.hasL b y) : CK.hasL (a ++ b) (x ++ y) := by
  induction a generalizing x with
  | nil => simp only [CK.hasL] at hx; subst hx; exact hy
  | cons c r ih =>
    simp only [CK.hasL] at hx
    obtain ⟨d, l, rfl, h1, h2⟩ := hx
    simp only [List.cons_append, CK.hasL]
    exact ⟨d, l ++ y, rfl, h1, ih h2⟩
theorem hasL_len {a : List CK} {x : List D} (hx : CK.hasL a x) : x.length = a.length := by
  induction a generalizing x with
  | nil => simp only [CK.hasL] at hx; subst hx; rfl
  | cons c r ih =>
    simp only [CK.hasL] at hx
    obtain ⟨d, l, rfl, h1, h2⟩ := hx
    simp [ih h2]
theorem RepL.append {w : World} {a b : List D} {x y : List Value} (ha : RepL w a x) (hb : RepL w b y) : RepL w (a ++ b) (x ++ y) := by
  refine ⟨by simp [ha.1, hb.1], fun j d hj => ?_⟩
  rcases Nat.lt_or_ge j a.length with h | h
  · rw [List.getElem?_append_left h] at hj
    have := ha.2 j d hj
    rw [List.getD_eq_getElem?_getD, List.getElem?_append_left (ha.1 ▸ h), ← List.getD_eq_getElem?_getD]
    exact this
  · rw [List.getElem?_append_right h] at hj
    have := hb.2 _ d hj
    rw [List.getD_eq_getElem?_getD, List.getElem?_append_right (ha.1 ▸ h), ← ha.1, ← List.getD_eq_getElem?_getD]
    exact this
theorem RepL.one {w : World} {d : D} {v : Value} (h1 : d.one = true) (h : RepD w (fun _ => False) d v) : RepL w [d] [v] := by
  refine ⟨rfl, fun j x hj => ?_⟩
  cases j with
  | zero => cases hj; exact ⟨h1, h⟩
  | succ j => simp at hj

section
variable {P : Program} {w : World} {H : Type} {enc : TypeId × Value → H}

theorem trod_fields {n fuel : Nat} {base : Nat} {spare : Nat → Bool} {held : Bool}
    (ih : ∀ {T : TypeId} {ag : Bool} {ks : List CK} {fuel : Nat} {cs : List Value} {x : DataW H × List MemPlace}, shape P n T = some (ag, ks) → DataW.trod enc P w base spare held fuel T cs = some x → ∃ ds, CK.hasL ks ds ∧ RepL w ds cs)
    {cs : List Value} : ∀ {fs : List Field} {off : Nat} {ks : List CK}, shFs P.cellsOf (shape P n) off fs = some ks →
      (∀ f ∈ fs, ∃ y, DataW.trod enc P w base spare held fuel f.type ((cs.drop f.offset).take (P.cellsOf f.type)) = some y) → cs.length = off + ks.length → ∃ ds, CK.hasL ks ds ∧ RepL w ds (cs.drop off) := by
  intro fs
  induction fs with
  | nil =>
    intro off ks hs _ hl
    simp only [shFs] at hs; cases hs
    refine ⟨[], rfl, ?_, fun j d hj => by simp at hj⟩
    simp at hl ⊢; omega
  | cons f r ihf =>
    intro off ks hs hm hl
    simp only [shFs] at hs
    split at hs
    · next ag k hk =>
      split at hs
      · next hc =>
        split at hs
        · next l hr =>
          cases hs
          obtain ⟨y, h1⟩ := hm f (by simp)
          obtain ⟨d1, q1, q2⟩ := ih hk h1
          obtain ⟨d2, q3, q4⟩ := ihf hr (fun g hg => hm g (by simp [hg])) (by rw [hl]; simp; omega)
          refine ⟨d1 ++ d2, hasL_append q1 q3, ?_⟩
          have := q2.append q4
          rw [hc.1, hc.2, show cs.drop (off + k.length) = (cs.drop off).drop k.length by rw [List.drop_drop], List.take_append_drop] at this
          exact this
        · cases hs
      · cases hs
    · cases hs

theorem trod_elems {n fuel : Nat} {base : Nat} {spare : Nat → Bool} {held : Bool} {e : TypeId} {ag : Bool} {k : List CK} (hsh : shape P n e = some (ag, k)) (hce : P.cellsOf e = k.length)
    (ih : ∀ {T : TypeId} {ag : Bool} {ks : List CK} {fuel : Nat} {cs : List Value} {x : DataW H × List MemPlace}, shape P n T = some (ag, ks) → DataW.trod enc P w base spare held fuel T cs = some x → ∃ ds, CK.hasL ks ds ∧ RepL w ds cs)
    {cs : List Value} : ∀ {m i : Nat},
      (∀ i', i ≤ i' → i' < i + m → ∃ y, DataW.trod enc P w base spare held fuel e ((cs.drop (i' * P.cellsOf e)).take (P.cellsOf e)) = some y) → cs.length = (i + m) * k.length → ∃ ds, CK.hasL (repL m k) ds ∧ RepL w ds (cs.drop (i * k.length)) := by
  intro m
  induction m with
  | zero =>
    intro i _ hl
    refine ⟨[], rfl, ?_, fun j d hj => by simp at hj⟩
    simp at hl ⊢; omega
  | succ m ihm =>
    intro i hm hl
    obtain ⟨y, h1⟩ := hm i (Nat.le_refl _) (by omega)
    obtain ⟨d1, q1, q2⟩ := ih hsh h1
    obtain ⟨d2, q3, q4⟩ := ihm (i := i + 1) (fun i' h1 h2 => hm i' (by omega) (by omega)) (by rw [hl]; congr 1; omega)
    refine ⟨d1 ++ d2, hasL_append q1 q3, ?_⟩
    have := q2.append q4
    rw [hce, Nat.add_mul, Nat.one_mul, ← List.drop_drop, List.take_append_drop] at this
    exact this

theorem trod_rep : ∀ {n : Nat} {T : TypeId} {ag : Bool} {ks : List CK} {fuel : Nat} {base : Nat} {spare : Nat → Bool} {held : Bool} {cs : List Value} {x : DataW H × List MemPlace}, shape P n T = some (ag, ks) → DataW.trod enc P w base spare held fuel T cs = some x →
    ∃ ds, CK.hasL ks ds ∧ RepL w ds cs := by
  intro n
  induction n with
  | zero => intro T ag ks fuel base spare held cs x hs _; cases hs
  | succ n ih =>
    intro T ag ks fuel base spare held cs x hs hx
    cases fuel with
    | zero => rw [DataW.trod.eq_def] at hx; cases hx
    | succ fuel =>
      simp only [shape] at hs
      split at hs
      · next hu =>
        cases hs
        obtain ⟨b, rfl, -⟩ := DataW.trod_bool hu hx
        exact ⟨[.bool b], ⟨_, _, rfl, ⟨b, rfl⟩, rfl⟩, .one rfl (.bool b)⟩
      · next k hu =>
        cases hs
        obtain ⟨m, rfl, -, hw⟩ := DataW.trod_int hu hx
        exact ⟨[.int k m], ⟨_, _, rfl, ⟨m, rfl, hw⟩, rfl⟩, .one rfl (.int k m)⟩
      · next hu =>
        cases hs
        obtain ⟨s, rfl, -, hw⟩ := DataW.trod_string hu hx
        exact ⟨[.str s.data.toList], ⟨_, _, rfl, ⟨_, rfl, by simpa using hw⟩, rfl⟩, .one rfl (.str _)⟩
      · next e hu =>
        split at hs
        · next ag' l hl =>
          split at hs
          · next hc =>
            cases hs
            rcases DataW.trod_slice hu hx with ⟨rfl, -⟩ | ⟨a, len, cap, elems, rest, m, hm, rfl, -, hb, hlc, hcm, hlen, hel, -, -⟩
            · exact ⟨[.sl []], ⟨_, _, rfl, ⟨[], rfl, by simp, fun x hx => by simp at hx⟩, rfl⟩, .one rfl (.nil _ _)⟩
            · have each : ∀ i, i < len → ∃ us ds, w.cells? base (a.add (i * P.cellsOf e)) (P.cellsOf e) = some us ∧ CK.hasL l ds ∧ RepL w ds us := by
                intro i hi
                have h1 := hel i hi
                rw [List.getElem?_eq_getElem (by omega), Option.bind_eq_some_iff] at h1
                obtain ⟨us, h2, h3⟩ := h1
                obtain ⟨ds, h4, h5⟩ := ih hl h3
                exact ⟨us, ds, h2, h4, h5⟩
              let us : Nat → List Value := fun i => if h : i < len then (each i h).choose else []
              let ds : Nat → List D := fun i => if h : i < len then (each i h).choose_spec.choose else []
              have hus : ∀ i, i < len → w.cells? base (a.add (i * P.cellsOf e)) (P.cellsOf e) = some (us i) ∧ CK.hasL l (ds i) ∧ RepL w (ds i) (us i) := by
                intro i hi
                have := (each i hi).choose_spec.choose_spec
                simp only [us, ds, hi, dif_pos]
                exact this
              let mk : List D → D := fun cs => if ag' then .agg cs else (match cs with | [x] => x | _ => .agg cs)
              have hmk : ∀ cs, cs.length = l.length → (∀ d ∈ cs, d.one = true) → (mk cs).cells = cs ∧ (if ag' then mk cs = .agg cs else cs = [mk cs]) := by
                intro cs hcs hone
                simp only [mk]
                cases ag' with
                | true => simp [D.cells]
                | false =>
                  have h1 : l.length = 1 := hc.2.1.resolve_left (by simp)
                  match cs, hcs.trans h1 with
                  | [x], _ =>
                    refine ⟨?_, by simp⟩
                    have := hone x (by simp)
                    cases x <;> simp_all [D.cells, D.one]
              have hone : ∀ i, i < len → ∀ d ∈ ds i, d.one = true := by
                intro i hi d hd
                obtain ⟨j, hj⟩ := List.getElem?_of_mem hd
                exact ((hus i hi).2.2.2 j d hj).1
              have hlenD : ∀ i, i < len → (ds i).length = l.length := fun i hi => hasL_len (hus i hi).2.1
              have hes : ((List.range len).map fun i => mk (ds i)).length = len := by simp
              refine ⟨[.sl ((List.range len).map fun i => mk (ds i))], ⟨_, _, rfl, ⟨_, rfl, by rw [hes]; omega, fun x hx => ?_⟩, rfl⟩, .one rfl ?_⟩
              · obtain ⟨i, hi, rfl⟩ := List.mem_map.1 hx
                have hi := List.mem_range.1 hi
                exact ⟨ds i, (hus i hi).2.1, (hmk _ (hlenD i hi) (hone i hi)).2⟩
              · by_cases h0 : len = 0
                · subst h0
                  exact .nil _ _
                · have hlpos : 0 < l.length := hc.2.2
                  have hblk : a.block < w.heap.size := by
                    have := World.cells?_block (hus 0 (by omega)).1 (by rw [hc.1]; exact hlpos)
                    simpa [Addr.add] using this
                  have hrep := RepD.sl (w := w) (M := fun _ => False) ((List.range len).map fun i => mk (ds i)) a cap l.length (fun i j => (us i).getD j undef) (by rw [hes]; exact hlc) hblk (fun h => h)
                    (fun x hx => by
                      obtain ⟨i, hi, rfl⟩ := List.mem_map.1 hx
                      have hi := List.mem_range.1 hi
                      rw [(hmk _ (hlenD i hi) (hone i hi)).1]
                      exact ⟨hlenD i hi, hone i hi⟩)
                    (fun i j hi hj => by
                      rw [hes] at hi
                      obtain ⟨h1, h2, h3⟩ := hus i hi
                      obtain ⟨-, h4, h5⟩ := World.cells?_some h1
                      have := h5 j (by rw [hc.1]; exact hj)
                      rw [hc.1, Addr.add_add] at this
                      rw [this, List.getD_eq_getElem?_getD, List.getElem?_eq_getElem (by rw [h4, hc.1]; exact hj)]
                      rfl)
                    (fun i j x d h1 h2 => by
                      have hi : i < len := by have := (List.getElem?_eq_some_iff.1 h1).1; rw [hes] at this; exact this
                      rw [List.getElem?_map, List.getElem?_range hi] at h1
                      cases h1
                      rw [(hmk _ (hlenD i hi) (hone i hi)).1] at h2
                      exact ((hus i hi).2.2.2 j d h2).2)
                  rw [hes] at hrep
                  exact hrep
          · cases hs
        · cases hs
      · next fs hu =>
        split at hs
        · next l hl =>
          split at hs
          · next hc =>
            cases hs
            obtain ⟨xs, m, -, -, hcs, hxl, hmap⟩ := DataW.trod_struct hu hx
            obtain ⟨ds, h1, h2⟩ := trod_fields (w := w) (fun h1 h2 => ih h1 h2) hl (fun f hf => by
              obtain ⟨i, hi⟩ := List.getElem?_of_mem hf
              have hi' : fs[i]? = some f := by simpa using hi
              have := hmap i f hi'
              rw [List.getElem?_eq_getElem (by rw [hxl]; exact (Array.getElem?_eq_some_iff.1 hi').1)] at this
              exact ⟨_, this⟩) (by rw [hcs, hc]; simp)
            exact ⟨ds, h1, by simpa using h2⟩
          · cases hs
        · cases hs
      · next m e hu =>
        split at hs
        · next ag' l hl =>
          split at hs
          · next hc =>
            cases hs
            obtain ⟨xs, q, -, -, hcs, hxl, hmap⟩ := DataW.trod_array hu hx
            obtain ⟨ds, h1, h2⟩ := trod_elems (w := w) (i := 0) (m := m) hl hc.1 (fun h1 h2 => ih h1 h2) (fun i _ hi => by
              have := hmap i (by omega)
              rw [List.getElem?_eq_getElem (by omega)] at this
              exact ⟨_, this⟩) (by rw [hcs, hc.2]; simp)
            exact ⟨ds, h1, by simpa using h2⟩
          · cases hs
        · cases hs
      · cases hs

/-- One argument: a value that is read as data stands for plain data of its type. -/
theorem arg_rep {n : Nat} {T : TypeId} {ag : Bool} {ks : List CK} {base b0 : Nat} {spare : Nat → Bool} {held : Bool} {r : Reach} {v : Value} {d : DataW H} {ps : List MemPlace} (hs : shape P n T = some (ag, ks))
    (hv : Value.okWide P w r b0 T v) (h : DataW.Trod enc P w base spare held T v d ps) :
    ∃ x : D, (∃ ds, CK.hasL ks ds ∧ (if ag then x = .agg ds else ds = [x])) ∧ RepD w (fun _ => False) x v := by
  obtain ⟨fuel, h⟩ := h
  obtain ⟨ds, h1, h2⟩ := trod_rep hs h
  have hagg : ∀ a : Array Value, v = .agg a → RepD w (fun _ => False) (.agg ds) v := by
    rintro a rfl
    simp only [Value.cells] at h2
    refine .agg ds a (by simpa using h2.1.symm) (fun d hd => ?_) fun j d hj => ?_
    · obtain ⟨j, hj⟩ := List.getElem?_of_mem hd
      exact (h2.2 j d hj).1
    · have := (h2.2 j d hj).2
      simpa [Array.getD_eq_getD_getElem?] using this
  have hone : ∀ k, ks = [k] → ag = false → v.cells = #[v] → ∃ x : D, (∃ ds, CK.hasL ks ds ∧ (if ag then x = .agg ds else ds = [x])) ∧ RepD w (fun _ => False) x v := by
    intro k hk hag hc
    subst hk hag
    have h1' := h1
    simp only [CK.hasL] at h1'
    obtain ⟨d, l, rfl, h3, rfl⟩ := h1'
    rw [hc] at h2
    exact ⟨d, ⟨_, h1, by simp⟩, (h2.2 0 d rfl).2⟩
  cases n with
  | zero => cases hs
  | succ n =>
    simp only [shape] at hs
    split at hs
    · next hu =>
      cases hs
      obtain ⟨b, hb, -⟩ := DataW.trod_bool hu h
      refine hone _ rfl rfl ?_
      unfold Value.okWide at hv; rw [hu] at hv
      unfold Cell.okWide at hv; rw [hu] at hv
      cases v <;> first | rfl | (simp [Cell.ok, hu] at hv)
    · next k hu =>
      cases hs
      refine hone _ rfl rfl ?_
      unfold Value.okWide at hv; rw [hu] at hv
      unfold Cell.okWide at hv; rw [hu] at hv
      cases v <;> first | rfl | (simp [Cell.ok, hu] at hv)
    · next hu =>
      cases hs
      refine hone _ rfl rfl ?_
      unfold Value.okWide at hv; rw [hu] at hv
      unfold Cell.okWide at hv; rw [hu] at hv
      cases v <;> first | rfl | (simp [Cell.ok, hu] at hv)
    · next e hu =>
      have hsl := Go.WideShapes.okWide_slice hu hv
      split at hs
      · split at hs
        · cases hs
          obtain ⟨a, len, cap, rfl⟩ := hsl
          exact hone _ rfl rfl rfl
        · cases hs
      · cases hs
    · next fs hu =>
      unfold Value.okWide at hv; rw [hu] at hv
      obtain ⟨cs, hv, -⟩ := hv
      split at hs
      · split at hs
        · cases hs; exact ⟨_, ⟨ds, h1, by simp⟩, hagg _ hv⟩
        · cases hs
      · cases hs
    · next m e hu =>
      unfold Value.okWide at hv; rw [hu] at hv
      obtain ⟨cs, hv, -⟩ := hv
      split at hs
      · split at hs
        · cases hs; exact ⟨_, ⟨ds, h1, by simp⟩, hagg _ hv⟩
        · cases hs
      · cases hs
    · cases hs

/-- A law that holds by contract, at a call: true, and nothing that was there has turned. -/
theorem calls_of_fnOK {f : FuncId} {ds : List D} {vs : Array Value} (h : FnOK P f (ds.map .d) [] (.d (.bool true)) []) (hl : vs.size = ds.length) (hv : ∀ (j : Nat) (d : D), ds[j]? = some d → RepD w (fun _ => False) d (vs.getD j undef)) :
    Calls P f vs w fun e w' => e = .returned (.bool true) ∧ Below w.heap.size w w' := by
  have hM : ∀ b, Mset (fun _ => False) (fun _ => HE.gone) b → False := by
    rintro b (hx | ⟨n, hn⟩)
    · exact hx
    · cases hn
  have hO : Objs (Oof []) (fun _ => HE.gone) (fun _ => False) w := ⟨fun n => ObjRel.none, fun n m b h1 => by simp [HE.blk] at h1, fun n b h1 => by simp [HE.blk] at h1, fun b hb => hb.elim⟩
  have hC : CR (Oof []) (fun _ => HE.gone) (fun _ => False) w (ds.map .d) vs := by
    refine ⟨by simpa using hl, fun j x hj => ?_⟩
    rw [List.getElem?_map] at hj
    cases hd : ds[j]? with
    | none => rw [hd] at hj; cases hj
    | some d =>
      rw [hd] at hj
      cases hj
      exact .d _ _ ((hv j d hd).mono (T := fun _ => False) (Evo.refl _ _) (fun _ h => h.elim) (fun b hb => .inl (hM b hb)))
  refine (h.2 w (fun _ => False) (fun _ => .gone) vs hO hC).mono fun e w' ⟨v, β', he, hr, _, hs⟩ => ⟨?_, ?_⟩
  · rw [he, hr.d_inv.bool_inv]
  · exact ⟨hs.evo.os, hs.evo.tape, hs.evo.output, hs.evo.size, fun k hk => hs.evo.block k hk (fun ⟨o, ho⟩ => by cases ho)⟩
end
end Sx
end Go.Proofs.Ytfllhedkgeljaaa
