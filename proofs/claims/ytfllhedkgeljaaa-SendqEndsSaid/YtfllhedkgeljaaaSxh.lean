/-
Slices that a call makes: literals, appends, bytes of a string: what becomes of the objects. No condition.
-/
import Derived.Test.YtfllhedkgeljaaaSxg
set_option linter.unusedSimpArgs false
set_option linter.unusedVariables false
namespace Go.Proofs.Ytfllhedkgeljaaa
namespace Sx
open Go.RowKit
section
variable {P : Program} {O : Nat → Ob} {β : Nat → HE} {X : Nat → Prop} {w : World} {look : Nat → Ob}

/-- An object moves on under another name, in the same block, which may have been written. -/
theorem Objs.move (hO : Objs O β X w) {o n b : Nat} (ho : O o ≠ .none) (hb : (β o).blk = some b) (hn : O n = .none) {ob : Ob} {he : HE} {w' : World} (hevo : Evo (fun x => x = b) w w') (hblk : ∀ b', he.blk = some b' → b' = b) (hob : ob ≠ .none)
    (hrel : Step O (upd (upd O o .gone) n ob) β (upd (upd β o .gone) n he) w w' → ObjRel w' (Mset X (upd (upd β o .gone) n he)) (upd (upd β o .gone) n he) (fun x => upd (upd O o .gone) n ob x ≠ .none) ob he) :
    Objs (upd (upd O o .gone) n ob) (upd (upd β o .gone) n he) X w' ∧ Step O (upd (upd O o .gone) n ob) β (upd (upd β o .gone) n he) w w' := by
  have hon : o ≠ n := by rintro rfl; exact ho hn
  have hβ : ∀ x, x ≠ n → x ≠ o → upd (upd β o .gone) n he x = β x := fun x h1 h2 => by rw [upd_other _ _ h1, upd_other _ _ h2]
  have hO' : ∀ x, x ≠ n → x ≠ o → upd (upd O o .gone) n ob x = O x := fun x h1 h2 => by rw [upd_other _ _ h1, upd_other _ _ h2]
  have hoo : upd (upd β o .gone) n he o = .gone := by rw [upd_other _ _ hon, upd_same]
  have hOo : upd (upd O o .gone) n ob o = .gone := by rw [upd_other _ _ hon, upd_same]
  have hstep : Step O (upd (upd O o .gone) n ob) β (upd (upd β o .gone) n he) w w' := by
    refine ⟨hevo.weaken (fun x h => h ▸ ⟨o, hb⟩), fun x hx => ?_, fun x ⟨y, hy⟩ => ?_⟩
    · have h1 : x ≠ n := by rintro rfl; exact hx hn
      by_cases h2 : x = o
      · subst h2; rw [hOo, hoo]; exact ⟨by simp, .inr rfl⟩
      · rw [hO' x h1 h2, hβ x h1 h2]; exact ⟨hx, .inl rfl⟩
    · by_cases h1 : y = n
      · subst h1; rw [upd_same] at hy
        exact .inl ⟨o, by rw [hblk x hy]; exact hb⟩
      · by_cases h2 : y = o
        · subst h2; rw [hoo] at hy; cases hy
        · rw [hβ y h1 h2] at hy; exact .inl ⟨y, hy⟩
  have hother : ∀ x b', x ≠ n → (upd (upd β o .gone) n he x).blk = some b' → (β x).blk = some b' ∧ x ≠ o := fun x b' h1 h => by
    by_cases h2 : x = o
    · subst h2; rw [hoo] at h; cases h
    · rw [hβ x h1 h2] at h; exact ⟨h, h2⟩
  refine ⟨⟨fun x => ?_, fun x y b' h1 h2 => ?_, fun x b' h1 => ?_, fun x hx => Nat.lt_of_lt_of_le (hO.xlt x hx) hevo.size⟩, hstep⟩
  · by_cases h1 : x = n
    · subst h1; rw [upd_same, upd_same]; exact hrel hstep
    · by_cases h2 : x = o
      · subst h2; rw [hOo, hoo]; exact .gone
      · rw [hO' x h1 h2, hβ x h1 h2]
        exact (hO.rel x).mono hstep.evo (fun _ hb => .inr hb) (hstep.mset X) hstep.keep fun b' hb' => hevo.block b' ((hO.rel x).lt hb') (fun e => h2 (hO.inj x o b (e ▸ hb') hb))
  · by_cases e1 : x = n
    · by_cases e2 : y = n
      · rw [e1, e2]
      · subst e1
        rw [upd_same] at h1
        obtain ⟨h3, h4⟩ := hother y b' e2 h2
        exact absurd (hO.inj y o b (hblk b' h1 ▸ h3) hb) h4
    · obtain ⟨h3, h4⟩ := hother x b' e1 h1
      by_cases e2 : y = n
      · subst e2
        rw [upd_same] at h2
        exact absurd (hO.inj x o b (hblk b' h2 ▸ h3) hb) h4
      · obtain ⟨h5, h6⟩ := hother y b' e2 h2
        exact hO.inj x y b' h3 h5
  · by_cases e1 : x = n
    · subst e1; rw [upd_same] at h1; rw [hblk b' h1]; exact hO.priv o b hb
    · exact hO.priv x b' (hother x b' e1 h1).1

/-- An object goes, and another one is made. -/
theorem Objs.replace (hO : Objs O β X w) {o n : Nat} (ho : O o ≠ .none) (hn : O n = .none) {ob : Ob} {he : HE} {w' : World} (hevo : Evo (fun _ => False) w w') (hblk : ∀ b, he.blk = some b → w.heap.size = b) (hob : ob ≠ .none)
    (hrel : Step O (upd (upd O o .gone) n ob) β (upd (upd β o .gone) n he) w w' → ObjRel w' (Mset X (upd (upd β o .gone) n he)) (upd (upd β o .gone) n he) (fun x => upd (upd O o .gone) n ob x ≠ .none) ob he) :
    Objs (upd (upd O o .gone) n ob) (upd (upd β o .gone) n he) X w' ∧ Step O (upd (upd O o .gone) n ob) β (upd (upd β o .gone) n he) w w' := by
  have hon : n ≠ o := by rintro rfl; exact ho hn
  obtain ⟨h1, h2⟩ := hO.kill ho
  have hn' : upd O o .gone n = .none := by rw [upd_other _ _ hon]; exact hn
  obtain ⟨h3, h4⟩ := h1.create hn' hevo hblk hob (fun hs => hrel (h2.trans hs))
  exact ⟨h3, h2.trans h4⟩

structure NewsR (P : Program) (O : Nat → Ob) (β : Nat → HE) (X : Nat → Prop) (w : World) (sz : Nat) (es : List D) (x : Value) (arr : Array Value) : Prop where
  len : (Builtin.lenOf x).run P w = .ok es.length w
  cells : (Builtin.firstCells sz es.length x).run P w = .ok arr w
  cells' : (Builtin.firstCells sz es.length x).run P w.drew = .ok arr w.drew
  size : arr.size = es.length * sz
  ok : ∀ e ∈ es, e.cells.length = sz ∧ ∀ d ∈ e.cells, d.one = true
  at_ : ∀ i j e d, es[i]? = some e → e.cells[j]? = some d → RepD w (Mset X β) d (arr.getD (i * sz + j) undef)

theorem idx_lt {es : List D} {sz i j : Nat} {e d : D} (hok : ∀ e ∈ es, e.cells.length = sz ∧ ∀ d ∈ e.cells, d.one = true) (h1 : es[i]? = some e) (h2 : e.cells[j]? = some d) : i < es.length ∧ j < sz ∧ i * sz + j < es.length * sz := by
  have hi := (List.getElem?_eq_some_iff.1 h1).1
  have hj := (List.getElem?_eq_some_iff.1 h2).1
  rw [(hok e (List.mem_of_getElem? h1)).1] at hj
  refine ⟨hi, hj, ?_⟩
  have : (i + 1) * sz ≤ es.length * sz := Nat.mul_le_mul_right _ hi
  rw [Nat.succ_mul] at this
  omega

theorem divmod {sz i j : Nat} (hj : j < sz) : (i * sz + j) / sz = i ∧ (i * sz + j) % sz = j := by
  constructor
  · rw [Nat.mul_comm, Nat.mul_add_div (by omega), Nat.div_eq_of_lt hj, Nat.add_zero]
  · rw [Nat.mul_comm, Nat.mul_add_mod, Nat.mod_eq_of_lt hj]

/-- All the cells of a slice's elements, loaded. -/
theorem elems_load {sz : Nat} {es : List D} {a : Option Addr} (hsz : 0 < sz) (h : Elems O β X w sz es a) (c : Nat) : ∃ arr, NewsR P O β X w sz es (.slice a es.length c) arr := by
  by_cases hes : es = []
  · subst hes
    refine ⟨#[], rfl, ?_, ?_, by simp, by simp, by simp⟩
    · cases a with
      | none => rfl
      | some ad => simp [Builtin.firstCells, loadCells, loadCellsFrom]
    · cases a with
      | none => rfl
      | some ad => simp [Builtin.firstCells, loadCells, loadCellsFrom]
  · obtain ⟨ad, f, rfl, -, hc, hr⟩ := h.at_ hes
    have hk : ∀ k, k < es.length * sz → w.cell? (ad.add k) = some (f (k / sz) (k % sz)) := fun k hk => by
      have h1 : k / sz < es.length := Nat.div_lt_of_lt_mul (by rw [Nat.mul_comm]; exact hk)
      have := hc (k / sz) (k % sz) h1 (Nat.mod_lt _ hsz)
      rw [Nat.mul_comm, Nat.div_add_mod] at this
      exact this
    have hl := run_loadCells (P := P) w ad (es.length * sz) (fun k => f (k / sz) (k % sz)) hk
    have hl' := run_loadCells (P := P) w.drew ad (es.length * sz) (fun k => f (k / sz) (k % sz)) hk
    refine ⟨_, rfl, hl, hl', by simp, h.ok, fun i j e d h1 h2 => ?_⟩
    obtain ⟨hi, hj, hij⟩ := idx_lt h.ok h1 h2
    rw [getD_range _ _ _ hij, (divmod hj).1, (divmod hj).2]
    exact hr i j e d h1 h2

theorem newsOf_ok {U : TypeId} {x : AV} {es : List D} {vx : Value} {sz : Nat} (hsz : 0 < sz) (hO : Objs O β X w) (hl : Looks O look) (hx : AR O β X w x vx) (h : newsOf P U x look = some es) (hcs : ∀ e ∈ es, e.cells.length = sz) :
    (∃ d, P.underlying U = some d ∧ ∀ k, d ≠ .int k) ∧ ∃ arr, NewsR P O β X w sz es vx arr := by
  unfold newsOf at h
  split at h
  · next hu =>
    split at h
    · next s =>
      cases h
      obtain rfl := hx.d_inv.str_inv
      refine ⟨⟨_, hu, by simp⟩, (s.map fun c => Value.int .u8 c.toNat).toArray, ?_⟩
      have hs1 : ∀ e ∈ s.map byteD, e.cells.length = sz ∧ ∀ d ∈ e.cells, d.one = true := fun e he => by
        obtain ⟨c, -, rfl⟩ := List.mem_map.1 he
        exact ⟨hcs _ he, fun d hd => by rw [byteD_cells] at hd; rw [List.mem_singleton.1 hd]; rfl⟩
      refine ⟨by simp [Builtin.lenOf, ByteArray.size], ?_, ?_, ?_, hs1, fun i j e d h1 h2 => ?_⟩
      · simp only [Builtin.firstCells, List.length_map, Sem.run_pure]
        congr 1
        apply Array.ext'
        simp
      · simp only [Builtin.firstCells, List.length_map, Sem.run_pure]
        congr 1
        apply Array.ext'
        simp
      · by_cases hs0 : s = []
        · subst hs0; simp
        · obtain ⟨c, r, rfl⟩ := List.exists_cons_of_ne_nil hs0
          have := hcs (byteD c) (by simp)
          rw [byteD_cells] at this
          simp at this
          subst this
          simp
      · rw [List.getElem?_map] at h1
        cases hc : s[i]? with
        | none => rw [hc] at h1; cases h1
        | some c =>
          rw [hc] at h1
          cases h1
          have hs2 := (hs1 (byteD c) (List.mem_map.2 ⟨c, List.mem_of_getElem? hc, rfl⟩)).1
          rw [byteD_cells] at h2 hs2
          simp at hs2
          subst hs2
          have hj : j = 0 := by
            cases j with
            | zero => rfl
            | succ j => simp at h2
          subst hj
          cases h2
          have hi := (List.getElem?_eq_some_iff.1 hc)
          obtain ⟨hi1, hi2⟩ := hi
          simp [hi1, hi2]
          exact .int _ _
    · cases h
  · next el hu =>
    obtain ⟨a, c, sz', rfl, hE, -⟩ := rowOf_ok hO hl hx h
    refine ⟨⟨_, hu, by simp⟩, ?_⟩
    have hE' : Elems O β X w sz es a := by
      by_cases hes : es = []
      · subst hes; exact ⟨by simp, by simp⟩
      · obtain ⟨e, r, rfl⟩ := List.exists_cons_of_ne_nil hes
        have h1 := (hE.ok e (by simp)).1
        have h2 := hcs e (by simp)
        obtain rfl : sz' = sz := h1.symm.trans h2
        exact hE
    exact elems_load hsz hE' c
  · cases h

theorem run_append_room' {T U ty elem : TypeId} {i : TypeInfo} {d : TypeDesc} (hT : P.underlying T = some (.slice elem)) (hU : P.underlying U = some d) (hd : ∀ k, d ≠ .int k) (hi : P.info? elem = some i)
    {base : Option Addr} {sLen sCap n : Nat} {x : Value} {arr : Array Value} (hlen : (Builtin.lenOf x).run P w = .ok n w) (hnews : (Builtin.firstCells i.size n x).run P w = .ok arr w) (hroom : sLen + n ≤ sCap) {w' : World}
    (hst : match base with | some a => (storeCells (a.add (sLen * i.size)) arr.toList).run P w = .ok () w' | none => w' = w) :
    (Builtin.append_ #[T, U] ty #[.slice base sLen sCap, x]).run P w = .ok (.slice base (sLen + n) sCap) w' := by
  have hz : (d matches .int _) = false := by cases d <;> first | rfl | (exact absurd rfl (hd _))
  cases base with
  | none =>
    subst hst
    simp [Builtin.append_, run_underlying hT, run_underlying hU, sizeOf, typeInfo, hi, hz, hlen, hnews, hroom]
  | some a => simp [Builtin.append_, run_underlying hT, run_underlying hU, sizeOf, typeInfo, hi, hz, hlen, hnews, hroom, hst]

theorem run_append_grow' {T U ty elem : TypeId} {i : TypeInfo} {d : TypeDesc} {z : Value} (hT : P.underlying T = some (.slice elem)) (hU : P.underlying U = some d) (hd : ∀ k, d ≠ .int k) (hi : P.info? elem = some i) (hz0 : i.zero = some z)
    {base : Option Addr} {sLen sCap n : Nat} {x : Value} {arr old : Array Value} (hlen : (Builtin.lenOf x).run P w = .ok n w) (hnews : (Builtin.firstCells i.size n x).run P w.drew = .ok arr w.drew)
    (hold : (Builtin.firstCells i.size sLen (.slice base sLen sCap)).run P w.drew = .ok old w.drew) (hgrow : sCap < sLen + n) (hb0 : 0 < i.bytes) (hb : (sLen + n) * i.bytes ≤ 140737488355328) :
    (Builtin.append_ #[T, U] ty #[.slice base sLen sCap, x]).run P w = .ok (.slice (some ⟨w.heap.size, 0, none⟩) (sLen + n) (grownCap w (sLen + n) sCap elem))
      (w.drew.alloc (.cells (old ++ arr ++ Builtin.zeroCells z.cells (grownCap w (sLen + n) sCap elem - (sLen + n))) elem)) := by
  have hz : (d matches .int _) = false := by cases d <;> first | rfl | (exact absurd rfl (hd _))
  have hnot : ¬ sLen + n ≤ sCap := by omega
  have h48 : ¬ (281474976710656 < Builtin.nextslicecap (sLen + n) sCap * i.bytes) := by
    have := growslice_fits hgrow hb
    omega
  have hb1 : i.bytes ≠ 0 := by omega
  simp [Builtin.append_, run_underlying hT, run_underlying hU, sizeOf, typeInfo, hi, hz, hlen, hnews, hold, hnot, h48, hb1, Question.forced, newRow, grownCap, zeroValue, hz0]

theorem zeroCells_size (z : Array Value) (n : Nat) : (Builtin.zeroCells z n).size = n * z.size := by simp [Builtin.zeroCells]
/-- The cells that come, and what they stand for. -/
structure NewsC (O : Nat → Ob) (β : Nat → HE) (X : Nat → Prop) (w : World) (sz : Nat) (es : List D) (arr : Array Value) : Prop where
  size : arr.size = es.length * sz
  ok : ∀ e ∈ es, e.cells.length = sz ∧ ∀ d ∈ e.cells, d.one = true
  at_ : ∀ i j e d, es[i]? = some e → e.cells[j]? = some d → RepD w (Mset X β) d (arr.getD (i * sz + j) undef)
theorem NewsR.c {sz : Nat} {es : List D} {x : Value} {arr : Array Value} (h : NewsR P O β X w sz es x arr) : NewsC O β X w sz es arr := ⟨h.size, h.ok, h.at_⟩
/-- What append does with them. -/
structure AppR (P : Program) (w : World) (T U ty elem : TypeId) (i : TypeInfo) (z : Value) (n : Nat) (x : Value) (arr : Array Value) : Prop where
  room : ∀ {base : Option Addr} {sLen sCap : Nat} {w' : World}, sLen + n ≤ sCap → (match base with | some a => (storeCells (a.add (sLen * i.size)) arr.toList).run P w = .ok () w' | none => w' = w) →
    (sLen + n) * i.bytes ≤ 140737488355328 → (Builtin.append_ #[T, U] ty #[.slice base sLen sCap, x]).run P w = .ok (.slice base (sLen + n) sCap) w'
  grow : ∀ {base : Option Addr} {sLen sCap : Nat} {old : Array Value}, (Builtin.firstCells i.size sLen (.slice base sLen sCap)).run P w.drew = .ok old w.drew → sCap < sLen + n → 0 < i.bytes → (sLen + n) * i.bytes ≤ 140737488355328 →
    (Builtin.append_ #[T, U] ty #[.slice base sLen sCap, x]).run P w = .ok (.slice (some ⟨w.heap.size, 0, none⟩) (sLen + n) (grownCap w (sLen + n) sCap elem))
      (w.drew.alloc (.cells (old ++ arr ++ Builtin.zeroCells z.cells (grownCap w (sLen + n) sCap elem - (sLen + n))) elem))

theorem zeroD_ok {elem : TypeId} {d : D} {i : TypeInfo} {z : Value} (hO : Objs O β X w) (h : zeroD P elem = some d) (hi : P.info? elem = some i) (hz : i.zero = some z) (hzs : z.cells.size = i.size) :
    (d.cells.length = i.size ∧ ∀ x ∈ d.cells, x.one = true) ∧ ∀ (j : Nat) (x : D), d.cells[j]? = some x → RepD w (Mset X β) x (z.cells.getD j undef) := by
  have key : ∀ cs, zeroC P elem = some cs → CR O β X w cs z.cells := fun cs h => by
    obtain ⟨v, h1, h2⟩ := zeroC_ok (P := P) (O := O) (β := β) (X := X) (w := w) h
    have h3 : (zeroValue elem).run P w = .ok z w := by simp [zeroValue, typeInfo, hi, hz]
    rw [h3] at h1
    cases h1
    exact h2
  unfold zeroD at h
  split at h
  · next zs hag hz2 =>
    split at h
    · next ds hds =>
      split at h
      · next hone =>
        cases h
        have hc := key _ hz2
        have hl : ds.length = zs.length := by
          clear hc hone hz2
          induction zs generalizing ds with
          | nil => simp [allD] at hds; subst hds; rfl
          | cons c r ih =>
            cases c with
            | d y =>
              simp only [allD] at hds
              split at hds
              · next l hl => cases hds; simp [ih _ hl]
              · cases hds
            | _ => simp [allD] at hds
        have hat : ∀ (j : Nat) (x : D), ds[j]? = some x → zs[j]? = some (AV.d x) := by
          clear hc hone hz2 hl
          induction zs generalizing ds with
          | nil => simp [allD] at hds; subst hds; intro j x h; simp at h
          | cons c r ih =>
            cases c with
            | d y =>
              simp only [allD] at hds
              split at hds
              · next l hl =>
                cases hds
                intro j x hj
                cases j with
                | zero => cases hj; rfl
                | succ j => exact ih _ hl j x hj
              · cases hds
            | _ => simp [allD] at hds
        refine ⟨⟨?_, fun x hx => List.all_eq_true.1 hone x hx⟩, fun j x hj => (hc.at_ j _ (hat j x hj)).d_inv⟩
        show ds.length = _
        rw [hl, ← hzs, hc.size]
      · cases h
    · cases h
  · next d' hag hz2 =>
    split at h
    · next hone =>
      cases h
      have hc := key _ hz2
      have hcells : d.cells = [d] := by cases d <;> first | rfl | simp [D.one] at hone
      rw [hcells]
      refine ⟨⟨?_, fun x hx => by rw [List.mem_singleton.1 hx]; exact hone⟩, fun j x hj => ?_⟩
      · have := hc.size
        rw [← hzs, this]; rfl
      · cases j with
        | zero => cases hj; exact (hc.at_ 0 _ rfl).d_inv
        | succ j => simp at hj
    · cases h
  · cases h

theorem zeroCells_get (z : Array Value) (n i j : Nat) (hi : i < n) (hj : j < z.size) : (Builtin.zeroCells z n).getD (i * z.size + j) undef = z.getD j undef := by
  have hlt : i * z.size + j < n * z.size := by
    have : (i + 1) * z.size ≤ n * z.size := Nat.mul_le_mul_right _ hi
    rw [Nat.succ_mul] at this
    omega
  unfold Builtin.zeroCells
  rw [Array.getD_eq_getD_getElem?, Array.getElem?_map, Array.getElem?_range]
  simp only [hlt, if_true, Option.map_some, Option.getD_some]
  have hm : (i * z.size + j) % z.size = j := by rw [Nat.mul_comm, Nat.mul_add_mod, Nat.mod_eq_of_lt hj]
  rw [hm, getElem!_pos z j hj, Array.getD_eq_getD_getElem?, Array.getElem?_eq_getElem hj, Option.getD_some]

theorem newsA_ok {T U ty elem : TypeId} {x : AV} {es : List D} {more : List Prop} {vx : Value} {i : TypeInfo} {z : Value} (hT : P.underlying T = some (.slice elem)) (hi : P.info? elem = some i) (hz : i.zero = some z) (hzs : z.cells.size = i.size) (hbp : 0 < i.bytes) (hsz : 0 < i.size)
    (hO : Objs O β X w) (hl : Looks O look) (hx : AR O β X w x vx) (h : newsA P U elem x look = some (es, more)) (hob : ∀ p ∈ more, p) (hbnd : es.length * i.bytes ≤ 140737488355328) (hcs : ∀ e ∈ es, e.cells.length = i.size) :
    ∃ arr, NewsC O β X w i.size es arr ∧ AppR P w T U ty elem i z es.length vx arr := by
  unfold newsA at h
  split at h
  · next k hU =>
    split at h
    · next n zd hzd =>
      cases h
      obtain rfl := hx.d_inv.int_inv
      have hn0 : 0 ≤ n := hob _ (by simp)
      obtain ⟨⟨h1, h2⟩, h3⟩ := zeroD_ok hO hzd hi hz hzs
      simp only [List.length_replicate] at hbnd ⊢
      have hnb : n.toNat ≤ 140737488355328 := Nat.le_trans (Nat.le_mul_of_pos_right _ hbp) hbnd
      have hw : IntKind.i64.wrap n = n := by rw [IntKind.wrap_i64]; omega
      have hneg : ¬ n < 0 := by omega
      have hbig : ¬ (n * (i.bytes : Int) > 2 ^ 48) := by
        have e : n * (i.bytes : Int) = ((n.toNat * i.bytes : Nat) : Int) := by
          rw [Int.natCast_mul, Int.toNat_of_nonneg hn0]
        rw [e]
        omega
      have hbig' : ¬ (281474976710656 < n * (i.bytes : Int)) := by simpa using hbig
      have harr : (if n.toNat * i.size = 0 then (#[] : Array Value) else Builtin.zeroCells z.cells n.toNat) = Builtin.zeroCells z.cells n.toNat := by
        split
        · next h0 =>
          have : n.toNat = 0 := by rcases Nat.mul_eq_zero.1 h0 with h | h <;> omega
          rw [this]; simp [Builtin.zeroCells]
        · rfl
      refine ⟨Builtin.zeroCells z.cells n.toNat, ⟨?_, ?_, ?_⟩, ⟨?_, ?_⟩⟩
      · rw [zeroCells_size, hzs, List.length_replicate]
      · intro e he
        rw [List.eq_of_mem_replicate he]
        exact ⟨h1, h2⟩
      · intro i1 j e d he hd
        have hi1 := (List.getElem?_eq_some_iff.1 he).1
        rw [List.length_replicate] at hi1
        have hee : e = zd := List.eq_of_mem_replicate (List.mem_of_getElem? he)
        subst hee
        have hj : j < z.cells.size := by rw [hzs, ← h1]; exact (List.getElem?_eq_some_iff.1 hd).1
        rw [← hzs, zeroCells_get _ _ _ _ hi1 hj]
        exact h3 j d hd
      · intro base sLen sCap w' hroom hst hbd
        by_cases h0 : n.toNat * i.size = 0
        · have e0 : n.toNat = 0 := by rcases Nat.mul_eq_zero.1 h0 with h | h <;> omega
          have ez : Builtin.zeroCells z.cells n.toNat = #[] := by rw [e0]; simp [Builtin.zeroCells]
          rw [ez] at hst
          cases base with
          | none => subst hst; simp [Builtin.append_, run_underlying hT, run_underlying hU, sizeOf, typeInfo, hi, asInt, asIntOf, hw, hneg, hbig', hroom, h0]
          | some a => simp [Builtin.append_, run_underlying hT, run_underlying hU, sizeOf, typeInfo, hi, asInt, asIntOf, hw, hneg, hbig', hroom, h0, hst]
        · cases base with
          | none => subst hst; simp [Builtin.append_, run_underlying hT, run_underlying hU, sizeOf, typeInfo, hi, asInt, asIntOf, hw, hneg, hbig', hroom, h0, zeroValue, hz]
          | some a => simp [Builtin.append_, run_underlying hT, run_underlying hU, sizeOf, typeInfo, hi, asInt, asIntOf, hw, hneg, hbig', hroom, h0, zeroValue, hz, hst]
      · intro base sLen sCap old hold hgrow _ hb
        have hnot : ¬ sLen + n.toNat ≤ sCap := by omega
        have hneed : sLen + n.toNat ≤ 140737488355328 := Nat.le_trans (Nat.le_mul_of_pos_right _ hbp) hb
        have h48 : ¬ (281474976710656 < Builtin.nextslicecap (sLen + n.toNat) sCap * i.bytes) := by
          have := growslice_fits hgrow hb
          omega
        have hmax : ¬ (IntKind.i64.max < (sLen : Int) + (n.toNat : Int)) := by
          have : IntKind.i64.max = 9223372036854775807 := by decide
          omega
        have hmax2 : ¬ (IntKind.i64.max < (sLen : Int) + n) := by
          have : IntKind.i64.max = 9223372036854775807 := by decide
          omega
        have hmax3 : ¬ (IntKind.i64.max < (sLen : Int) + max n 0) := by
          have : IntKind.i64.max = 9223372036854775807 := by decide
          omega
        have hmax4 : ¬ (9223372036854775807 < (sLen : Int) + max n 0) := by omega
        by_cases h0 : n.toNat * i.size = 0
        · have e0 : n.toNat = 0 := by rcases Nat.mul_eq_zero.1 h0 with h | h <;> omega
          have ez : Builtin.zeroCells z.cells n.toNat = #[] := by rw [e0]; simp [Builtin.zeroCells]
          rw [ez]
          simp [Builtin.append_, run_underlying hT, run_underlying hU, sizeOf, typeInfo, hi, asInt, asIntOf, hw, hneg, hbig', hnot, h48, hold, h0, Question.forced, newRow, grownCap, zeroValue, hz, hmax, hmax2, hmax3, hmax4]
        · simp [Builtin.append_, run_underlying hT, run_underlying hU, sizeOf, typeInfo, hi, asInt, asIntOf, hw, hneg, hbig', hnot, h48, hold, h0, Question.forced, newRow, grownCap, zeroValue, hz, hmax, hmax2, hmax3, hmax4]
    · cases h
  · next hnU =>
    split at h
    · next l hl2 =>
      cases h
      obtain ⟨⟨d, hU, hd⟩, arr, hN⟩ := newsOf_ok hsz hO hl hx hl2 hcs
      refine ⟨arr, hN.c, ⟨fun hroom hst _ => run_append_room' (ty := ty) hT hU hd hi hN.len hN.cells hroom hst, fun hold hgrow hb0 hb => run_append_grow' (ty := ty) hT hU hd hi hz hN.len hN.cells' hold hgrow hb0 hb⟩⟩
    · cases h

theorem append_at {sz : Nat} {es news : List D} {old arr : Array Value} (h0 : NewsC O β X w sz es old) (h1 : NewsC O β X w sz news arr) (rest : Array Value) :
    (∀ e ∈ es ++ news, e.cells.length = sz ∧ ∀ d ∈ e.cells, d.one = true) ∧ (es ++ news).length * sz ≤ (old ++ arr ++ rest).size ∧
    ∀ i j e d, (es ++ news)[i]? = some e → e.cells[j]? = some d → RepD w (Mset X β) d ((old ++ arr ++ rest).getD (i * sz + j) undef) := by
  refine ⟨fun e he => ?_, ?_, fun i j e d hi hj => ?_⟩
  · rcases List.mem_append.1 he with h | h
    · exact h0.ok e h
    · exact h1.ok e h
  · simp only [List.length_append, Array.size_append, h0.size, h1.size, Nat.add_mul]
    omega
  · rw [Array.getD_eq_getD_getElem?]
    by_cases h : i < es.length
    · rw [List.getElem?_append_left h] at hi
      obtain ⟨-, -, hij⟩ := idx_lt h0.ok hi hj
      rw [Array.append_assoc, Array.getElem?_append_left (by rw [h0.size]; exact hij), ← Array.getD_eq_getD_getElem?]
      exact h0.at_ i j e d hi hj
    · rw [List.getElem?_append_right (by omega)] at hi
      obtain ⟨k1, k2, hij⟩ := idx_lt h1.ok hi hj
      have e1 : i * sz + j = es.length * sz + ((i - es.length) * sz + j) := by
        have : i = es.length + (i - es.length) := by omega
        rw [this, Nat.add_mul]; simp; omega
      rw [e1, Array.append_assoc, Array.getElem?_append_right (by rw [h0.size]; omega), h0.size, Array.getElem?_append_left (by rw [h1.size]; omega), ← Array.getD_eq_getD_getElem?]
      rw [show es.length * sz + ((i - es.length) * sz + j) - es.length * sz = (i - es.length) * sz + j by omega]
      exact h1.at_ (i - es.length) j e d hi hj

theorem baseOf_ok {x : AV} {o sz : Nat} {es0 : List D} {vx : Value} (hO : Objs O β X w) (hl : Looks O look) (hx : AR O β X w x vx) (h : baseOf x look = some (some o, sz, es0)) :
    ∃ szr es g a c, O o = .row szr es ∧ β o = .row szr es.length g ∧ szr = sz ∧ es0 = es.take es0.length ∧ es0.length ≤ es.length ∧ vx = .slice a es0.length c ∧ es.length ≤ c ∧ OwnV g sz 0 es0.length vx := by
  unfold baseOf at h
  split at h
  · next o' sz' =>
    split at h
    · next szr es hlk =>
      cases h
      have hβe : ∃ g, β o = .row szr es0.length g := by
        rcases hO.row (hl.row hlk) with ⟨rfl, hβ⟩ | ⟨b, cur, t, lo, hi, hβ, -⟩
        · exact ⟨_, hβ⟩
        · exact ⟨_, hβ⟩
      obtain ⟨g, hβ⟩ := hβe
      cases hx with
      | own o sz v hC hone hv =>
        obtain ⟨e1, hw⟩ := hv _ _ _ hβ
        obtain ⟨a, c, rfl, h3⟩ := hw
        exact ⟨szr, es0, g, a, c, hl.row hlk, hβ, e1, by simp, Nat.le_refl _, rfl, h3.1, a, c, rfl, h3⟩
    · cases h
  · next o' sz' lo n =>
    split at h
    · next szr es hlk =>
      split at h
      · next hlo =>
        subst hlo
        cases h
        have hβe : ∃ g, β o = .row szr es.length g := by
          rcases hO.row (hl.row hlk) with ⟨rfl, hβ⟩ | ⟨b, cur, t, lo, hi, hβ, -⟩
          · exact ⟨_, hβ⟩
          · exact ⟨_, hβ⟩
        obtain ⟨g, hβ⟩ := hβe
        cases hx with
        | sub o sz lo n v hC hone hv =>
          obtain ⟨e1, hn, hw⟩ := hv _ _ _ hβ
          have hlen : (es.take n).length = n := by simp; omega
          obtain ⟨a, c, rfl, h3⟩ := hw
          have hcap := hn.2 _ _ _ rfl
          refine ⟨szr, es, g, a, c, hl.row hlk, hβ, e1, by rw [hlen], by rw [hlen]; omega, by rw [hlen], by omega, ?_⟩
          rw [hlen]
          exact ⟨a, c, rfl, h3⟩
      · cases h
    · cases h
  · cases h
  · cases h

theorem ownV_grown (w : World) {sz n cap : Nat} {sizeAll : Nat} (h1 : n ≤ cap) (h2 : cap * sz ≤ sizeAll) : OwnV (some (w.heap.size, sizeAll)) sz 0 n (.slice (some ⟨w.heap.size, 0, none⟩) n cap) :=
  ⟨_, _, rfl, h1, fun _ => ⟨_, _, rfl, by simp, by simpa using h2⟩⟩


theorem actAppend_ok {dst : Nat} {T U ty : TypeId} {s x : AV} {e : Eff} {vs vx : Value} (hO : Objs O β X w) (hl : Looks O look) (hs : AR O β X w s vs) (hx : AR O β X w x vx)
    (ha : actAppend P dst T U s x look = some e) (hob : ∀ p ∈ e.obs, p) :
    ∃ v w' β', (Builtin.append_ #[T, U] ty #[vs, vx]).run P w = .ok v w' ∧ Done O β X w e v β' w' := by
  unfold actAppend at ha
  split at ha
  · next elem hlk hT =>
    split at ha
    · next sz z o sz' es0 news more hsz hz hbase hnews =>
      split at ha
      · next hcond =>
        obtain ⟨h0, hzl, hszo, hbp⟩ := hcond
        cases ha
        have hbnd : (es0.length + news.length) * bytesT P elem ≤ 140737488355328 := hob _ (by simp)
        have hcs : ∀ e ∈ news, e.cells.length = sz := hob _ (by simp)
        obtain ⟨i, hi, hisz⟩ := szT_info hsz
        subst hisz
        have hby : bytesT P elem = i.bytes := by simp [bytesT, hi]
        rw [hby] at hbp hbnd
        obtain ⟨z0, hz0, hzc⟩ : ∃ z0, i.zero = some z0 ∧ z0.cells.size = i.size := by
          unfold zeroC at hz
          rw [hi] at hz
          simp only at hz
          split at hz
          · next v hv => cases hz; exact ⟨v, hv, by simpa using hzl⟩
          · cases hz
        obtain ⟨arr, hN, hA⟩ := newsA_ok (ty := ty) hT hi hz0 hzc hbp h0 hO hl hx hnews (fun p hp => hob p (by simp [hp])) (by
          have : news.length * i.bytes ≤ (es0.length + news.length) * i.bytes := Nat.mul_le_mul_right _ (by omega)
          omega) hcs
        have hnn := hl.none hlk
        cases o with
        | none =>
          have hsn : vs = .slice none 0 0 ∧ es0 = [] := by
            unfold baseOf at hbase
            split at hbase
            · split at hbase <;> cases hbase
            · split at hbase
              · split at hbase <;> cases hbase
              · cases hbase
            · cases hbase; exact ⟨hs.raw_inv, rfl⟩
            · cases hbase
          obtain ⟨rfl, rfl⟩ := hsn
          simp only [List.nil_append, List.length_nil, Nat.zero_add] at hbnd ⊢
          by_cases hne : news = []
          · subst hne
            have hrun := hA.room (base := none) (sLen := 0) (sCap := 0) (by simp) rfl (by simp)
            have hcr := hO.create (ob := .row i.size []) (he := .row i.size 0 none) hnn (Evo.refl _ _) (fun b hb => by cases hb) (by simp) (fun _ => .rowN _)
            refine ⟨_, _, _, hrun, Done.of_one hcr (.own _ _ _ (by simp [upd_same]) rfl fun sz2 len g hb => ?_)⟩
            rw [upd_same] at hb
            cases hb
            exact ⟨rfl, none, 0, rfl, Nat.le_refl _, fun h => absurd h (by omega)⟩
          · have hpos := List.length_pos_iff.2 hne
            have hrun := hA.grow (base := none) (sLen := 0) (sCap := 0) (old := #[]) rfl (by omega) hbp (by simpa using hbnd)
            obtain ⟨k1, k2, k3⟩ := append_at (sz := i.size) (es := []) (old := #[]) ⟨by simp, by simp, by simp⟩ hN
              (Builtin.zeroCells z0.cells (grownCap w (0 + news.length) 0 elem - (0 + news.length)))
            simp only [List.nil_append] at k1 k2 k3
            have hrow := new_row (sz := i.size) (es := news) hO hnn elem 0 0 (.inl rfl) k1 k2 k3 _ (((Evo.refl _ w).drew).alloc _) (heap_alloc_new w.drew _)
            refine ⟨_, _, _, hrun, Done.of_one hrow (.own _ _ _ (by simp [upd_same]) rfl fun sz2 len g hb => ?_)⟩
            rw [upd_same] at hb
            cases hb
            refine ⟨rfl, ?_⟩
            have hge := grownCap_ge w (0 + news.length) 0 elem
            rw [show 0 + news.length = news.length by omega] at hge ⊢
            refine ownV_grown w hge ?_
            simp only [Array.size_append, zeroCells_size, hN.size, hzc, Array.size_empty, Nat.zero_add, ← Nat.add_mul]
            exact Nat.mul_le_mul_right _ (by omega)
        | some o =>
          have hszo' : sz' = i.size := hszo.resolve_left (by simp)
          subst hszo'
          obtain ⟨szr, es, g, a, c, hOo, hβo, rfl, htk, hle, rfl, hcap, hown⟩ := baseOf_ok hO hl hs hbase
          obtain ⟨a', c', heq, hnc, hbk⟩ := hown
          cases heq
          have hOn : O o ≠ .none := by rw [hOo]; simp
          have hne2 : newName dst 0 ≠ o := by intro h; rw [h] at hnn; exact hOn hnn
          have hEl : Elems O β X w i.size es0 a := by
            have h3 : rowOf (.sub o i.size 0 es0.length) (fun n => O n) = some es0 := by
              simp only [rowOf, hOo, List.drop_zero]
              exact congrArg some htk.symm
            have h4 : AR O β X w (.sub o i.size 0 es0.length) (.slice a es0.length c) := .sub _ _ _ _ _ hOn rfl fun sz2 len2 g2 hb2 => by
              rw [hβo] at hb2
              cases hb2
              exact ⟨rfl, ⟨by omega, fun a2 n2 c2 he => by cases he; omega⟩, a, c, rfl, hnc, hbk⟩
            obtain ⟨a2, c2, sz2, heq2, hE2, -⟩ := rowOf_ok hO (fun n => .inl rfl) h4 h3
            cases heq2
            by_cases hes : es0 = []
            · subst hes; exact ⟨by simp, by simp⟩
            · have hsz2 : sz2 = i.size := by
                obtain ⟨e0, r0, hr0⟩ := List.exists_cons_of_ne_nil hes
                have hm : e0 ∈ es0 := by rw [hr0]; simp
                have h5 := (hE2.ok e0 hm).1
                have hm2 : e0 ∈ es := by rw [htk] at hm; exact List.mem_of_mem_take hm
                rcases hO.row hOo with ⟨rfl, -⟩ | ⟨b, cur, t, lo, hi, hβ, hb, hf, hsz2, hlen, hr⟩
                · cases hm2
                · rw [← h5, (hsz2 e0 hm2).1]
              subst hsz2
              exact hE2
          obtain ⟨old, hN0⟩ := elems_load (P := P) h0 hEl c
          by_cases hroom : es0.length + news.length ≤ c
          · by_cases hcz : c = 0
            · -- nothing there, nothing comes
              subst hcz
              have he0 : es0 = [] := List.eq_nil_of_length_eq_zero (by omega)
              have hn0 : news = [] := List.eq_nil_of_length_eq_zero (by omega)
              subst he0 hn0
              have harr : arr = #[] := Array.eq_empty_of_size_eq_zero (by rw [hN.size]; simp)
              have hrun := hA.room (base := a) (w' := w) hroom (by subst harr; cases a <;> rfl) hbnd
              have hcr := hO.replace (ob := .row i.size []) (he := .row i.size 0 none) hOn hnn (Evo.refl _ _) (fun b hb => by cases hb) (by simp) (fun _ => .rowN _)
              refine ⟨_, _, _, hrun, ⟨.own _ _ _ (by simp [updL, upd_same]) rfl fun sz2 len g hb => ?_, hcr.1, hcr.2⟩⟩
              rw [upd_same] at hb
              cases hb
              exact ⟨rfl, a, 0, rfl, Nat.le_refl _, fun h => absurd h (by omega)⟩
            · obtain ⟨b, cnt, rfl, rfl, hfit⟩ := hbk (by omega)
              rcases hO.row hOo with ⟨rfl, hβ⟩ | ⟨b', cur, t, lo, hi', hβ, hb, hf, hsz2, hlen, hr⟩
              · rw [hβo] at hβ; cases hβ
              · rw [hβo] at hβ
                cases hβ
                simp only [Nat.zero_add] at hfit
                have hfit2 : es0.length * i.size + arr.toList.length ≤ cur.size := by
                  have h6 : (es0.length + news.length) * i.size ≤ c * i.size := Nat.mul_le_mul_right _ hroom
                  have h7 := hN.size
                  rw [Nat.add_mul] at h6
                  simp only [Array.length_toList]
                  omega
                have hone : ∀ v ∈ arr.toList, v.oneCell' = true := by
                  intro v hv
                  obtain ⟨k, hk, rfl⟩ := List.getElem_of_mem hv
                  simp only [Array.length_toList] at hk
                  have hk2 := hk
                  rw [hN.size] at hk2
                  have hdiv : k / i.size < news.length := Nat.div_lt_of_lt_mul (by rw [Nat.mul_comm]; exact hk2)
                  have hmod := Nat.mod_lt k h0
                  have hc1 := (hN.ok _ (List.getElem_mem hdiv)).1
                  have hcell : (news[k / i.size]).cells[k % i.size]? = some (news[k / i.size]).cells[k % i.size] := List.getElem?_eq_getElem (by rw [hc1]; exact hmod)
                  have hrep := hN.at_ (k / i.size) (k % i.size) _ _ (List.getElem?_eq_getElem hdiv) hcell
                  rw [Nat.mul_comm, Nat.div_add_mod] at hrep
                  have h8 := (hrep.one ((hN.ok _ (List.getElem_mem hdiv)).2 _ (List.getElem_mem _))).1
                  simpa [Array.getD_eq_getD_getElem?, hk] using h8
                have hst := run_storeCells (P := P) b (es0.length * i.size) t lo hi' arr.toList 0 cur w hb (by simpa using hfit2) hf.out hone
                simp only [Nat.add_zero] at hst
                have hrun := hA.room (base := some ⟨b, 0 * i.size, none⟩)
                  (w' := w.setRow b (cur.toList.take (es0.length * i.size) ++ arr.toList ++ cur.toList.drop (es0.length * i.size + arr.toList.length)).toArray) hroom
                  (by
                    show (storeCells ((Addr.mk b (0 * i.size) none).add (es0.length * i.size)) arr.toList).run P w = _
                    rw [add_mk, Nat.zero_mul, Nat.zero_add]; exact hst) hbnd
                have hsize : (cur.toList.take (es0.length * i.size) ++ arr.toList ++ cur.toList.drop (es0.length * i.size + arr.toList.length)).toArray.size = cur.size := by
                  simp only [List.size_toArray, List.length_append, List.length_take, List.length_drop, Array.length_toList]
                  simp only [Array.length_toList] at hfit2
                  omega
                have hlenall : (es0 ++ news).length * i.size ≤ cur.size := by
                  have h6 : (es0.length + news.length) * i.size ≤ c * i.size := Nat.mul_le_mul_right _ hroom
                  rw [List.length_append]
                  omega
                have hmv := hO.move (n := newName dst 0) (ob := .row i.size (es0 ++ news)) (he := .row i.size (es0 ++ news).length (some (b, cur.size))) hOn (by rw [hβo]; rfl) hnn
                  (setRow_evo w b (cur.toList.take (es0.length * i.size) ++ arr.toList ++ cur.toList.drop (es0.length * i.size + arr.toList.length)).toArray) (fun b' hb' => by cases hb'; rfl) (by simp) fun hstep => by
                    have hh := ObjRel.row (M := Mset X (upd (upd β o .gone) (newName dst 0) (.row i.size (es0 ++ news).length (some (b, cur.size)))))
                      (β := upd (upd β o .gone) (newName dst 0) (.row i.size (es0 ++ news).length (some (b, cur.size)))) (C := fun x => upd (upd O o .gone) (newName dst 0) (Ob.row i.size (es0 ++ news)) x ≠ Ob.none)
                      i.size (es0 ++ news) b _ t lo hi' (setRow_heap w b cur _ t _ hb) (by rw [hsize]; exact hf)
                      (fun e he => by
                        rcases List.mem_append.1 he with h | h
                        · exact hN0.ok e h
                        · exact hN.ok e h)
                      (by rw [hsize]; exact hlenall)
                      (fun i1 j e d h1 h2 => by
                        rw [getD_setAt' hfit2 (n := news.length * i.size) (by simpa using hN.size)]
                        by_cases hlt : i1 < es0.length
                        · rw [List.getElem?_append_left hlt] at h1
                          obtain ⟨-, hj, hij⟩ := idx_lt hN0.ok h1 h2
                          rw [if_neg (by omega)]
                          have h9 : es[i1]? = some e := by
                            rw [htk, List.getElem?_take_of_lt hlt] at h1
                            exact h1
                          exact hstep.repd (hr i1 j e d h9 h2)
                        · rw [List.getElem?_append_right (by omega)] at h1
                          obtain ⟨k1, hj, hij⟩ := idx_lt hN.ok h1 h2
                          have e1 : i1 * i.size + j = es0.length * i.size + ((i1 - es0.length) * i.size + j) := by
                            have : i1 = es0.length + (i1 - es0.length) := by omega
                            rw [this, Nat.add_mul]; simp; omega
                          rw [if_pos (by omega), e1, show es0.length * i.size + ((i1 - es0.length) * i.size + j) - es0.length * i.size = (i1 - es0.length) * i.size + j by omega]
                          have h9 := hstep.repd (hN.at_ (i1 - es0.length) j e d h1 h2)
                          rw [List.getD_eq_getElem?_getD, Array.getElem?_toList, ← Array.getD_eq_getD_getElem?]
                          exact h9)
                    rw [hsize] at hh
                    exact hh
                refine ⟨_, _, _, hrun, ⟨.own _ _ _ (by simp [updL, upd_same]) rfl fun sz2 len g hb => ?_, hmv.1, hmv.2⟩⟩
                rw [upd_same] at hb
                cases hb
                refine ⟨rfl, _, _, ?_, by rw [List.length_append]; exact hroom, fun _ => ⟨b, cur.size, rfl, rfl, by simpa using hfit⟩⟩
                rw [List.length_append]
          · -- it grows
            have hrun := hA.grow (base := a) (sLen := es0.length) (sCap := c) hN0.cells' (by omega) hbp hbnd
            obtain ⟨k1, k2, k3⟩ := append_at hN0.c hN (Builtin.zeroCells z0.cells (grownCap w (es0.length + news.length) c elem - (es0.length + news.length)))
            have hevo : Evo (fun _ => False) w (w.drew.alloc (.cells (old ++ arr ++ Builtin.zeroCells z0.cells (grownCap w (es0.length + news.length) c elem - (es0.length + news.length))) elem)) := ((Evo.refl _ w).drew).alloc _
            have hrp := hO.replace (n := newName dst 0) (ob := .row i.size (es0 ++ news))
              (he := .row i.size (es0 ++ news).length (some (w.heap.size, (old ++ arr ++ Builtin.zeroCells z0.cells (grownCap w (es0.length + news.length) c elem - (es0.length + news.length))).size)))
              hOn hnn hevo (fun b hb => by cases hb; rfl) (by simp) fun hstep =>
                .row i.size (es0 ++ news) w.heap.size _ elem 0 0 (heap_alloc_new w.drew _) (.inl rfl) k1 k2 fun i1 j e d h1 h2 => hstep.repd (k3 i1 j e d h1 h2)
            refine ⟨_, _, _, hrun, ⟨.own _ _ _ (by simp [updL, upd_same]) rfl fun sz2 len g hb => ?_, hrp.1, hrp.2⟩⟩
            rw [upd_same] at hb
            cases hb
            refine ⟨rfl, ?_⟩
            have hge := grownCap_ge w (es0.length + news.length) c elem
            rw [List.length_append]
            refine ownV_grown w hge ?_
            simp only [Array.size_append, zeroCells_size, hN.size, hN0.size, hzc, ← Nat.add_mul]
            exact Nat.mul_le_mul_right _ (by omega)
      · cases ha
    · cases ha
  · cases ha
theorem newsC_one {sz : Nat} {news : List D} {arr : Array Value} (h0 : 0 < sz) (hN : NewsC O β X w sz news arr) : ∀ v ∈ arr.toList, v.oneCell' = true := by
  intro v hv
  obtain ⟨k, hk, rfl⟩ := List.getElem_of_mem hv
  simp only [Array.length_toList] at hk
  have hk2 := hk
  rw [hN.size] at hk2
  have hdiv : k / sz < news.length := Nat.div_lt_of_lt_mul (by rw [Nat.mul_comm]; exact hk2)
  have hmod := Nat.mod_lt k h0
  have hc1 := (hN.ok _ (List.getElem_mem hdiv)).1
  have hcell : (news[k / sz]).cells[k % sz]? = some (news[k / sz]).cells[k % sz] := List.getElem?_eq_getElem (by rw [hc1]; exact hmod)
  have hrep := hN.at_ (k / sz) (k % sz) _ _ (List.getElem?_eq_getElem hdiv) hcell
  rw [Nat.mul_comm, Nat.div_add_mod] at hrep
  have h8 := (hrep.one ((hN.ok _ (List.getElem_mem hdiv)).2 _ (List.getElem_mem _))).1
  simpa [Array.getD_eq_getD_getElem?, hk] using h8

/-- A stretch of a row is written in place. -/
theorem row_put {o sz : Nat} {es : List D} (h0 : 0 < sz) (hO : Objs O β X w) (hOo : O o = .row sz es) (hne : es ≠ []) {m : Nat} {news : List D} {arr : Array Value} (hN : NewsC O β X w sz news arr) (hm : m + news.length ≤ es.length) :
    ∃ b cnt w', β o = .row sz es.length (some (b, cnt)) ∧ (storeCells ⟨b, m * sz, none⟩ arr.toList).run P w = .ok () w' ∧
      Objs (upd O o (.row sz (es.take m ++ news ++ es.drop (m + news.length)))) β X w' ∧ Step O (upd O o (.row sz (es.take m ++ news ++ es.drop (m + news.length)))) β β w w' := by
  rcases hO.row hOo with ⟨rfl, -⟩ | ⟨b, cur, t, lo, hi, hβ, hb, hf, hsz2, hlen, hr⟩
  · exact absurd rfl hne
  · have hmul : (m + news.length) * sz ≤ es.length * sz := Nat.mul_le_mul_right _ hm
    rw [Nat.add_mul] at hmul
    have hfit : m * sz + arr.toList.length ≤ cur.size := by
      have := hN.size
      simp only [Array.length_toList]
      omega
    have hst := run_storeCells (P := P) b (m * sz) t lo hi arr.toList 0 cur w hb (by simpa using hfit) hf.out (newsC_one h0 hN)
    simp only [Nat.add_zero] at hst
    have hsize : (cur.toList.take (m * sz) ++ arr.toList ++ cur.toList.drop (m * sz + arr.toList.length)).toArray.size = cur.size := by
      simp only [List.size_toArray, List.length_append, List.length_take, List.length_drop, Array.length_toList]
      simp only [Array.length_toList] at hfit
      omega
    have hlen2 : (es.take m ++ news ++ es.drop (m + news.length)).length = es.length := by
      simp only [List.length_append, List.length_take, List.length_drop]
      omega
    have hOn : O o ≠ .none := by rw [hOo]; simp
    have hwr := hO.write (n := o) (b := b) (ob := .row sz (es.take m ++ news ++ es.drop (m + news.length))) hOn (by rw [hβ]; rfl)
      (setRow_evo w b (cur.toList.take (m * sz) ++ arr.toList ++ cur.toList.drop (m * sz + arr.toList.length)).toArray) (by simp) fun hstep => by
        have hh := ObjRel.row (M := Mset X β) (β := β) (C := fun x => upd O o (Ob.row sz (es.take m ++ news ++ es.drop (m + news.length))) x ≠ Ob.none)
          sz (es.take m ++ news ++ es.drop (m + news.length)) b _ t lo hi (setRow_heap w b cur _ t _ hb) (by rw [hsize]; exact hf)
          (fun e he => by
            rcases List.mem_append.1 he with h | h
            · rcases List.mem_append.1 h with h | h
              · exact hsz2 e (List.mem_of_mem_take h)
              · exact hN.ok e h
            · exact hsz2 e (List.mem_of_mem_drop h))
          (by rw [hsize, hlen2]; exact hlen)
          (fun i1 j e d h1 h2 => by
            rw [getD_setAt' hfit (n := news.length * sz) (by simpa using hN.size)]
            have hel : e.cells.length = sz := by
              have hm1 := List.mem_of_getElem? h1
              rcases List.mem_append.1 hm1 with h | h
              · rcases List.mem_append.1 h with h | h
                · exact (hsz2 e (List.mem_of_mem_take h)).1
                · exact (hN.ok e h).1
              · exact (hsz2 e (List.mem_of_mem_drop h)).1
            have hj : j < sz := by rw [← hel]; exact (List.getElem?_eq_some_iff.1 h2).1
            have htl : (es.take m).length = m := by simp; omega
            by_cases hlt : i1 < m
            · have hij : (i1 + 1) * sz ≤ m * sz := Nat.mul_le_mul_right _ hlt
              rw [Nat.succ_mul] at hij
              rw [if_neg (by omega)]
              rw [List.append_assoc, List.getElem?_append_left (by rw [htl]; exact hlt), List.getElem?_take_of_lt hlt] at h1
              exact hstep.repd (hr i1 j e d h1 h2)
            · by_cases hlt2 : i1 < m + news.length
              · rw [List.append_assoc, List.getElem?_append_right (by rw [htl]; omega), htl, List.getElem?_append_left (by omega)] at h1
                have e1 : i1 * sz + j = m * sz + ((i1 - m) * sz + j) := by
                  have : i1 = m + (i1 - m) := by omega
                  rw [this, Nat.add_mul]; simp; omega
                have hij : (i1 - m + 1) * sz ≤ news.length * sz := Nat.mul_le_mul_right _ (by omega)
                rw [Nat.succ_mul] at hij
                rw [if_pos (by omega), e1, show m * sz + ((i1 - m) * sz + j) - m * sz = (i1 - m) * sz + j by omega]
                have h9 := hstep.repd (hN.at_ (i1 - m) j e d h1 h2)
                rw [List.getD_eq_getElem?_getD, Array.getElem?_toList, ← Array.getD_eq_getD_getElem?]
                exact h9
              · have hij : (m + news.length) * sz ≤ i1 * sz := Nat.mul_le_mul_right _ (by omega)
                rw [Nat.add_mul] at hij
                rw [if_neg (by omega)]
                rw [List.getElem?_append_right (by rw [List.length_append, htl]; omega), List.length_append, htl, List.getElem?_drop, show m + news.length + (i1 - (m + news.length)) = i1 by omega] at h1
                exact hstep.repd (hr i1 j e d h1 h2))
        rw [hsize, hlen2] at hh
        rw [hβ]
        exact hh
    exact ⟨b, cur.size, _, hβ, hst, hwr.1, hwr.2⟩

theorem zero_info {elem : TypeId} {z : List AV} {i : TypeInfo} (hi : P.info? elem = some i) (hz : zeroC P elem = some z) (hzl : z.length = i.size) : ∃ z0, i.zero = some z0 ∧ z0.cells.size = i.size := by
  unfold zeroC at hz
  rw [hi] at hz
  simp only at hz
  split at hz
  · next v hv => cases hz; exact ⟨v, hv, by simpa using hzl⟩
  · cases hz

theorem actAppendIn_ok {T U ty : TypeId} {s x : AV} {e : Eff} {vs vx : Value} (hO : Objs O β X w) (hl : Looks O look) (hs : AR O β X w s vs) (hx : AR O β X w x vx)
    (ha : actAppendIn P T U s x look = some e) (hob : ∀ p ∈ e.obs, p) :
    ∃ v w' β', (Builtin.append_ #[T, U] ty #[vs, vx]).run P w = .ok v w' ∧ Done O β X w e v β' w' := by
  unfold actAppendIn at ha
  split at ha
  · next o sz' lo m o' szx lox nx =>
    split at ha
    · next szr es elem el2 hlk hT hU =>
      split at ha
      · next sz z news hsz hz hnews =>
        split at ha
        · next hcond =>
          obtain ⟨rfl, rfl, rfl, h0, hzl, hbp⟩ := hcond
          cases ha
          have hne : es ≠ [] := hob _ (by simp)
          have hm : m + news.length ≤ es.length := hob _ (by simp)
          have hbnd : (m + news.length) * bytesT P elem ≤ 140737488355328 := hob _ (by simp)
          have hcs : ∀ e ∈ news, e.cells.length = sz' := hob _ (by simp)
          obtain ⟨i, hi, hisz⟩ := szT_info hsz
          subst hisz
          have hby : bytesT P elem = i.bytes := by simp [bytesT, hi]
          rw [hby] at hbp hbnd
          obtain ⟨z0, hz0, hzc⟩ := zero_info hi hz hzl
          have hnA : newsA P U elem (.sub o szx lox nx) look = some (news, []) := by
            unfold newsA newsOf
            rw [hU]
            simp only [hnews]
          obtain ⟨arr, hN, hA⟩ := newsA_ok (ty := ty) hT hi hz0 hzc hbp h0 hO hl hx hnA (by simp) (by
            have : news.length * i.bytes ≤ (m + news.length) * i.bytes := Nat.mul_le_mul_right _ (by omega)
            omega) hcs
          have hOo := hl.row hlk
          cases hs with
          | sub o sz lo n v hC hone hv =>
            obtain ⟨g, hβ0⟩ : ∃ g, β o = .row szr es.length g := by
              rcases hO.row hOo with ⟨rfl, hβ⟩ | ⟨b, cur, t, lo, hi, hβ, -⟩
              · exact absurd rfl hne
              · exact ⟨_, hβ⟩
            obtain ⟨rfl, hb1, a, c, rfl, hnc, hbk⟩ := hv _ _ _ hβ0
            have hcap := hb1.2 _ _ _ rfl
            have hpos : 0 < es.length := List.length_pos_iff.2 hne
            obtain ⟨b, cnt, w', hβ, hst, h1, h2⟩ := row_put (P := P) h0 hO hOo hne hN hm
            rw [hβ0] at hβ
            cases hβ
            obtain ⟨b', cnt', hg, rfl, hfit⟩ := hbk (by omega)
            cases hg
            have hrun := hA.room (base := some ⟨b, 0 * i.size, none⟩) (sLen := m) (sCap := c) (w' := w') (by omega) (by
              show (storeCells ((Addr.mk b (0 * i.size) none).add (m * i.size)) arr.toList).run P w = _
              rw [add_mk, Nat.zero_mul, Nat.zero_add]; exact hst) hbnd
            refine ⟨_, _, β, hrun, ⟨.sub _ _ _ _ _ (by simp [updL, upd_same]) rfl fun sz2 len g hb => ?_, h1, h2⟩⟩
            rw [hβ0] at hb
            cases hb
            refine ⟨rfl, ⟨by omega, fun a2 n2 c2 he => by cases he; omega⟩, _, _, rfl, by omega, fun _ => ⟨b, cnt, rfl, rfl, hfit⟩⟩
        · cases ha
      · cases ha
    · cases ha
  · cases ha

theorem actClear_ok {T ty : TypeId} {x : AV} {e : Eff} {vx : Value} (hO : Objs O β X w) (hl : Looks O look) (hx : AR O β X w x vx)
    (ha : actClear P T x look = some e) (hob : ∀ p ∈ e.obs, p) :
    ∃ v w' β', (Builtin.clear_ #[T] ty #[vx]).run P w = .ok v w' ∧ Done O β X w e v β' w' := by
  unfold actClear at ha
  split at ha
  · next o sz' lo n =>
    split at ha
    · next szr es elem hlk hT =>
      split at ha
      · next sz z zd hsz hz hzd =>
        split at ha
        · next hcond =>
          obtain ⟨rfl, h0, hzl⟩ := hcond
          cases ha
          have hne : es ≠ [] := hob _ (by simp)
          have hn : 0 < n := hob _ (by simp)
          have hm : lo + n ≤ es.length := hob _ (by simp)
          obtain ⟨i, hi, hisz⟩ := szT_info hsz
          subst hisz
          obtain ⟨z0, hz0, hzc⟩ := zero_info hi hz hzl
          obtain ⟨⟨k1, k2⟩, k3⟩ := zeroD_ok hO hzd hi hz0 hzc
          have hN : NewsC O β X w i.size (List.replicate n zd) (Builtin.zeroCells z0.cells n) := by
            refine ⟨?_, ?_, ?_⟩
            · rw [zeroCells_size, hzc, List.length_replicate]
            · intro e he
              rw [List.eq_of_mem_replicate he]
              exact ⟨k1, k2⟩
            · intro i1 j e d he hd
              have hi1 := (List.getElem?_eq_some_iff.1 he).1
              rw [List.length_replicate] at hi1
              have hee : e = zd := List.eq_of_mem_replicate (List.mem_of_getElem? he)
              subst hee
              have hj : j < z0.cells.size := by rw [hzc, ← k1]; exact (List.getElem?_eq_some_iff.1 hd).1
              rw [← hzc, zeroCells_get _ _ _ _ hi1 hj]
              exact k3 j d hd
          have hOo := hl.row hlk
          cases hx with
          | sub o sz lo n v hC hone hv =>
            obtain ⟨g, hβ0⟩ : ∃ g, β o = .row szr es.length g := by
              rcases hO.row hOo with ⟨rfl, hβ⟩ | ⟨b, cur, t, lo, hi, hβ, -⟩
              · exact absurd rfl hne
              · exact ⟨_, hβ⟩
            obtain ⟨rfl, hb1, a, c, rfl, hnc, hbk⟩ := hv _ _ _ hβ0
            obtain ⟨b, cnt, w', hβ, hst, h1, h2⟩ := row_put (P := P) h0 hO hOo hne hN (m := lo) (by rw [List.length_replicate]; exact hm)
            rw [hβ0] at hβ
            cases hβ
            obtain ⟨b', cnt', hg, rfl, hfit⟩ := hbk (by omega)
            cases hg
            rw [List.length_replicate] at h1 h2
            obtain ⟨n', rfl⟩ : ∃ n', n = n' + 1 := ⟨n - 1, by omega⟩
            have hrun : (Builtin.clear_ #[T] ty #[.slice (some ⟨b, lo * i.size, none⟩) (n' + 1) c]).run P w = .ok (.tuple #[]) w' := by
              simp [Builtin.clear_, run_underlying hT, zeroValue, typeInfo, hi, hz0, hst]
            exact ⟨_, _, β, hrun, ⟨.dead _, h1, h2⟩⟩
        · cases ha
      · cases ha
    · cases ha
  · cases ha
end
end Sx
end Go.Proofs.Ytfllhedkgeljaaa
