/-
Part 2 of 9 of the proof of pipeEnds: the lemmas that it needs, of the texts Sxh, Sxi, Sxj, Sxk, Sxl, Sxm, Sxn, Sxo. No condition but those that each lemma names.
-/
import Derived.Test.YtalpfhpeaaocmaaGreatE1
import Derived.Laws.MakeOwn
import Derived.Orders
import Derived.Scope

set_option linter.unusedSimpArgs false
set_option linter.unusedVariables false
set_option maxRecDepth 100000
set_option maxHeartbeats 1000000
section
namespace Go.Proofs.YtalpfhpeaaocmaaGreat
namespace Sx
open Go.RowKit
section
variable {P : Program} {O : Nat → Ob} {β : Nat → HE} {X : Nat → Prop} {w : World} {look : Nat → Ob}
/-- An object moves on under another name, in the same block, which may have been written. -/
theorem Objs.move (hO : Objs O β X w) {o n b : Nat} (ho : O o ≠ .none) (hb : (β o).blk = some b) (hn : O n = .none) {ob : Ob} {he : HE} {w' : World} (hevo : Evo (fun x => x = b) w w') (hblk : ∀ b', he.blk = some b' → b' = b) (hob : ob ≠ .none)
  (hrel : Step O (upd (upd O o .gone) n ob) β (upd (upd β o .gone) n he) w w' → ObjRel w' (Mset X (upd (upd β o .gone) n he)) (upd (upd β o .gone) n he) (fun x => upd (upd O o .gone) n ob x ≠ .none) ob he) :
  Objs (upd (upd O o .gone) n ob) (upd (upd β o .gone) n he) X w' ∧ Step O (upd (upd O o .gone) n ob) β (upd (upd β o .gone) n he) w w' := by
 have hon : o ≠ n := by rintro rfl; exact ho hn
 have hβ : ∀ x, x ≠ n → x ≠ o → upd (upd β o .gone) n he x = β x := fun x h1 h2 => by rw [upd_other _ _ h1, upd_other _ _ h2]
 have hO' : ∀ x, x ≠ n → x ≠ o → upd (upd O o .gone) n ob x = O x := fun x h1 h2 => by rw [upd_other _ _ h1, upd_other _ _ h2]
 have hoo : upd (upd β o .gone) n he o = .gone := by rw [upd_other _ _ hon, upd_same]
 have hOo : upd (upd O o .gone) n ob o = .gone := by rw [upd_other _ _ hon, upd_same]
 have hstep : Step O (upd (upd O o .gone) n ob) β (upd (upd β o .gone) n he) w w' := by
  refine ⟨hevo.weaken (fun x h => h ▸ ⟨o, hb⟩), fun x hx => ?_, fun x ⟨y, hy⟩ => ?_⟩
  ·have h1 : x ≠ n := by rintro rfl; exact hx hn
   by_cases h2 : x = o
   ·subst h2; rw [hOo, hoo]; exact ⟨by simp, .inr rfl⟩
   ·rw [hO' x h1 h2, hβ x h1 h2]; exact ⟨hx, .inl rfl⟩
  ·by_cases h1 : y = n
   ·subst h1; rw [upd_same] at hy
    exact .inl ⟨o, by rw [hblk x hy]; exact hb⟩
   ·by_cases h2 : y = o
    ·subst h2; rw [hoo] at hy; cases hy
    ·rw [hβ y h1 h2] at hy; exact .inl ⟨y, hy⟩
 have hother : ∀ x b', x ≠ n → (upd (upd β o .gone) n he x).blk = some b' → (β x).blk = some b' ∧ x ≠ o := fun x b' h1 h => by
  by_cases h2 : x = o
  ·subst h2; rw [hoo] at h; cases h
  ·rw [hβ x h1 h2] at h; exact ⟨h, h2⟩
 refine ⟨⟨fun x => ?_, fun x y b' h1 h2 => ?_, fun x b' h1 => ?_, fun x hx => Nat.lt_of_lt_of_le (hO.xlt x hx) hevo.size⟩, hstep⟩
 ·by_cases h1 : x = n
  ·subst h1; rw [upd_same, upd_same]; exact hrel hstep
  ·by_cases h2 : x = o
   ·subst h2; rw [hOo, hoo]; exact .gone
   ·rw [hO' x h1 h2, hβ x h1 h2]
    exact (hO.rel x).mono hstep.evo (fun _ hb => .inr hb) (hstep.mset X) hstep.keep fun b' hb' => hevo.block b' ((hO.rel x).lt hb') (fun e => h2 (hO.inj x o b (e ▸ hb') hb))
 ·by_cases e1 : x = n
  ·by_cases e2 : y = n
   ·rw [e1, e2]
   ·subst e1
    rw [upd_same] at h1
    obtain ⟨h3, h4⟩ := hother y b' e2 h2
    exact absurd (hO.inj y o b (hblk b' h1 ▸ h3) hb) h4
  ·obtain ⟨h3, h4⟩ := hother x b' e1 h1
   by_cases e2 : y = n
   ·subst e2
    rw [upd_same] at h2
    exact absurd (hO.inj x o b (hblk b' h2 ▸ h3) hb) h4
   ·obtain ⟨h5, h6⟩ := hother y b' e2 h2
    exact hO.inj x y b' h3 h5
 ·by_cases e1 : x = n
  ·subst e1; rw [upd_same] at h1; rw [hblk b' h1]; exact hO.priv o b hb
  ·exact hO.priv x b' (hother x b' e1 h1).1
/-- An object goes, and another one is made. -/
theorem Objs.replace (hO : Objs O β X w) {o n : Nat} (ho : O o ≠ .none) (hn : O n = .none) {ob : Ob} {he : HE} {w' : World} (hevo : Evo (fun _ => False) w w') (hblk : ∀ b, he.blk = some b → w.heap.size = b) (hob : ob ≠ .none)
  (hrel : Step O (upd (upd O o .gone) n ob) β (upd (upd β o .gone) n he) w w' → ObjRel w' (Mset X (upd (upd β o .gone) n he)) (upd (upd β o .gone) n he) (fun x => upd (upd O o .gone) n ob x ≠ .none) ob he) :
  Objs (upd (upd O o .gone) n ob) (upd (upd β o .gone) n he) X w' ∧ Step O (upd (upd O o .gone) n ob) β (upd (upd β o .gone) n he) w w' := by
 have hon : n ≠ o := by rintro rfl; exact ho hn
 obtain ⟨h1, h2⟩ := hO.kill ho
 have hn' : upd O o .gone n = .none := by rw [upd_other _ _ hon]; exact hn
 obtain ⟨h3, h4⟩ := h1.create hn' hevo hblk hob (fun hs => hrel (h2.trans hs))
 exact ⟨h3, h2.trans h4⟩
structure NewsR (P : Program) (O : Nat → Ob) (β : Nat → HE) (X : Nat → Prop) (w : World) (sz : Nat) (es : List D) (x : Value) (arr : Array Value) : Prop where
 len : (Builtin.lenOf x).run P w = .ok es.length w
 cells : (Builtin.firstCells sz es.length x).run P w = .ok arr w
 cells' : (Builtin.firstCells sz es.length x).run P w.drew = .ok arr w.drew
 size : arr.size = es.length * sz
 ok : ∀ e ∈ es, e.cells.length = sz ∧ ∀ d ∈ e.cells, d.one = true
 at_ : ∀ i j e d, es[i]? = some e → e.cells[j]? = some d → RepD w (Mset X β) d (arr.getD (i * sz + j) undef)
theorem idx_lt {es : List D} {sz i j : Nat} {e d : D} (hok : ∀ e ∈ es, e.cells.length = sz ∧ ∀ d ∈ e.cells, d.one = true) (h1 : es[i]? = some e) (h2 : e.cells[j]? = some d) : i < es.length ∧ j < sz ∧ i * sz + j < es.length * sz := by
 have hi := (List.getElem?_eq_some_iff.1 h1).1
 have hj := (List.getElem?_eq_some_iff.1 h2).1
 rw [(hok e (List.mem_of_getElem? h1)).1] at hj
 refine ⟨hi, hj, ?_⟩
 have : (i + 1) * sz ≤ es.length * sz := Nat.mul_le_mul_right _ hi
 rw [Nat.succ_mul] at this
 omega
theorem divmod {sz i j : Nat} (hj : j < sz) : (i * sz + j) / sz = i ∧ (i * sz + j) % sz = j := by
 constructor
 ·rw [Nat.mul_comm, Nat.mul_add_div (by omega), Nat.div_eq_of_lt hj, Nat.add_zero]
 ·rw [Nat.mul_comm, Nat.mul_add_mod, Nat.mod_eq_of_lt hj]
/-- All the cells of a slice's elements, loaded. -/
theorem elems_load {sz : Nat} {es : List D} {a : Option Addr} (hsz : 0 < sz) (h : Elems O β X w sz es a) (c : Nat) : ∃ arr, NewsR P O β X w sz es (.slice a es.length c) arr := by
 by_cases hes : es = []
 ·subst hes
  refine ⟨#[], rfl, ?_, ?_, by simp, by simp, by simp⟩
  ·cases a with
   | none => rfl
   | some ad => simp [Builtin.firstCells, loadCells, loadCellsFrom]
  ·cases a with
   | none => rfl
   | some ad => simp [Builtin.firstCells, loadCells, loadCellsFrom]
 ·obtain ⟨ad, f, rfl, -, hc, hr⟩ := h.at_ hes
  have hk : ∀ k, k < es.length * sz → w.cell? (ad.add k) = some (f (k / sz) (k % sz)) := fun k hk => by
   have h1 : k / sz < es.length := Nat.div_lt_of_lt_mul (by rw [Nat.mul_comm]; exact hk)
   have := hc (k / sz) (k % sz) h1 (Nat.mod_lt _ hsz)
   rw [Nat.mul_comm, Nat.div_add_mod] at this
   exact this
  have hl := run_loadCells (P := P) w ad (es.length * sz) (fun k => f (k / sz) (k % sz)) hk
  have hl' := run_loadCells (P := P) w.drew ad (es.length * sz) (fun k => f (k / sz) (k % sz)) hk
  refine ⟨_, rfl, hl, hl', by simp, h.ok, fun i j e d h1 h2 => ?_⟩
  obtain ⟨hi, hj, hij⟩ := idx_lt h.ok h1 h2
  rw [getD_range _ _ _ hij, (divmod hj).1, (divmod hj).2]
  exact hr i j e d h1 h2
theorem newsOf_ok {U : TypeId} {x : AV} {es : List D} {vx : Value} {sz : Nat} (hsz : 0 < sz) (hO : Objs O β X w) (hl : Looks O look) (hx : AR O β X w x vx) (h : newsOf P U x look = some es) (hcs : ∀ e ∈ es, e.cells.length = sz) :
  (∃ d, P.underlying U = some d ∧ ∀ k, d ≠ .int k) ∧ ∃ arr, NewsR P O β X w sz es vx arr := by
 unfold newsOf at h
 split at h
 ·next hu =>
  split at h
  ·next s =>
   cases h
   obtain rfl := hx.d_inv.str_inv
   refine ⟨⟨_, hu, by simp⟩, (s.map fun c => Value.int .u8 c.toNat).toArray, ?_⟩
   have hs1 : ∀ e ∈ s.map byteD, e.cells.length = sz ∧ ∀ d ∈ e.cells, d.one = true := fun e he => by
    obtain ⟨c, -, rfl⟩ := List.mem_map.1 he
    exact ⟨hcs _ he, fun d hd => by rw [byteD_cells] at hd; rw [List.mem_singleton.1 hd]; rfl⟩
   refine ⟨by simp [Builtin.lenOf, ByteArray.size], ?_, ?_, ?_, hs1, fun i j e d h1 h2 => ?_⟩
   ·simp only [Builtin.firstCells, List.length_map, Sem.run_pure]
    congr 1
    apply Array.ext'
    simp
   ·simp only [Builtin.firstCells, List.length_map, Sem.run_pure]
    congr 1
    apply Array.ext'
    simp
   ·by_cases hs0 : s = []
    ·subst hs0; simp
    ·obtain ⟨c, r, rfl⟩ := List.exists_cons_of_ne_nil hs0
     have := hcs (byteD c) (by simp)
     rw [byteD_cells] at this
     simp at this
     subst this
     simp
   ·rw [List.getElem?_map] at h1
    cases hc : s[i]? with
    | none => rw [hc] at h1; cases h1
    | some c =>
     rw [hc] at h1
     cases h1
     have hs2 := (hs1 (byteD c) (List.mem_map.2 ⟨c, List.mem_of_getElem? hc, rfl⟩)).1
     rw [byteD_cells] at h2 hs2
     simp at hs2
     subst hs2
     have hj : j = 0 := by
      cases j with
      | zero => rfl
      | succ j => simp at h2
     subst hj
     cases h2
     have hi := (List.getElem?_eq_some_iff.1 hc)
     obtain ⟨hi1, hi2⟩ := hi
     simp [hi1, hi2]
     exact .int _ _
  ·cases h
 ·next el hu =>
  obtain ⟨a, c, sz', rfl, hE, -⟩ := rowOf_ok hO hl hx h
  refine ⟨⟨_, hu, by simp⟩, ?_⟩
  have hE' : Elems O β X w sz es a := by
   by_cases hes : es = []
   ·subst hes; exact ⟨by simp, by simp⟩
   ·obtain ⟨e, r, rfl⟩ := List.exists_cons_of_ne_nil hes
    have h1 := (hE.ok e (by simp)).1
    have h2 := hcs e (by simp)
    obtain rfl : sz' = sz := h1.symm.trans h2
    exact hE
  exact elems_load hsz hE' c
 ·cases h
theorem run_append_room' {T U ty elem : TypeId} {i : TypeInfo} {d : TypeDesc} (hT : P.underlying T = some (.slice elem)) (hU : P.underlying U = some d) (hd : ∀ k, d ≠ .int k) (hi : P.info? elem = some i)
  {base : Option Addr} {sLen sCap n : Nat} {x : Value} {arr : Array Value} (hlen : (Builtin.lenOf x).run P w = .ok n w) (hnews : (Builtin.firstCells i.size n x).run P w = .ok arr w) (hroom : sLen + n ≤ sCap) {w' : World}
  (hst : match base with | some a => (storeCells (a.add (sLen * i.size)) arr.toList).run P w = .ok () w' | none => w' = w) :
  (Builtin.append_ #[T, U] ty #[.slice base sLen sCap, x]).run P w = .ok (.slice base (sLen + n) sCap) w' := by
 have hz : (d matches .int _) = false := by cases d <;> first | rfl | (exact absurd rfl (hd _))
 cases base with
 | none =>
  subst hst
  simp [Builtin.append_, run_underlying hT, run_underlying hU, sizeOf, typeInfo, hi, hz, hlen, hnews, hroom]
 | some a => simp [Builtin.append_, run_underlying hT, run_underlying hU, sizeOf, typeInfo, hi, hz, hlen, hnews, hroom, hst]
theorem run_append_grow' {T U ty elem : TypeId} {i : TypeInfo} {d : TypeDesc} {z : Value} (hT : P.underlying T = some (.slice elem)) (hU : P.underlying U = some d) (hd : ∀ k, d ≠ .int k) (hi : P.info? elem = some i) (hz0 : i.zero = some z)
  {base : Option Addr} {sLen sCap n : Nat} {x : Value} {arr old : Array Value} (hlen : (Builtin.lenOf x).run P w = .ok n w) (hnews : (Builtin.firstCells i.size n x).run P w.drew = .ok arr w.drew)
  (hold : (Builtin.firstCells i.size sLen (.slice base sLen sCap)).run P w.drew = .ok old w.drew) (hgrow : sCap < sLen + n) (hb0 : 0 < i.bytes) (hb : (sLen + n) * i.bytes ≤ 140737488355328) :
  (Builtin.append_ #[T, U] ty #[.slice base sLen sCap, x]).run P w = .ok (.slice (some ⟨w.heap.size, 0, none⟩) (sLen + n) (grownCap w (sLen + n) sCap elem))
   (w.drew.alloc (.cells (old ++ arr ++ Builtin.zeroCells z.cells (grownCap w (sLen + n) sCap elem - (sLen + n))) elem)) := by
 have hz : (d matches .int _) = false := by cases d <;> first | rfl | (exact absurd rfl (hd _))
 have hnot : ¬ sLen + n ≤ sCap := by omega
 have h48 : ¬ (281474976710656 < Builtin.nextslicecap (sLen + n) sCap * i.bytes) := by
  have := growslice_fits hgrow hb
  omega
 have hb1 : i.bytes ≠ 0 := by omega
 simp [Builtin.append_, run_underlying hT, run_underlying hU, sizeOf, typeInfo, hi, hz, hlen, hnews, hold, hnot, h48, hb1, Question.forced, newRow, grownCap, zeroValue, hz0]
theorem zeroCells_size (z : Array Value) (n : Nat) : (Builtin.zeroCells z n).size = n * z.size := by simp [Builtin.zeroCells]
/-- The cells that come, and what they stand for. -/
structure NewsC (O : Nat → Ob) (β : Nat → HE) (X : Nat → Prop) (w : World) (sz : Nat) (es : List D) (arr : Array Value) : Prop where
 size : arr.size = es.length * sz
 ok : ∀ e ∈ es, e.cells.length = sz ∧ ∀ d ∈ e.cells, d.one = true
 at_ : ∀ i j e d, es[i]? = some e → e.cells[j]? = some d → RepD w (Mset X β) d (arr.getD (i * sz + j) undef)
theorem NewsR.c {sz : Nat} {es : List D} {x : Value} {arr : Array Value} (h : NewsR P O β X w sz es x arr) : NewsC O β X w sz es arr := ⟨h.size, h.ok, h.at_⟩
/-- What append does with them. -/
structure AppR (P : Program) (w : World) (T U ty elem : TypeId) (i : TypeInfo) (z : Value) (n : Nat) (x : Value) (arr : Array Value) : Prop where
 room : ∀ {base : Option Addr} {sLen sCap : Nat} {w' : World}, sLen + n ≤ sCap → (match base with | some a => (storeCells (a.add (sLen * i.size)) arr.toList).run P w = .ok () w' | none => w' = w) →
  (sLen + n) * i.bytes ≤ 140737488355328 → (Builtin.append_ #[T, U] ty #[.slice base sLen sCap, x]).run P w = .ok (.slice base (sLen + n) sCap) w'
 grow : ∀ {base : Option Addr} {sLen sCap : Nat} {old : Array Value}, (Builtin.firstCells i.size sLen (.slice base sLen sCap)).run P w.drew = .ok old w.drew → sCap < sLen + n → 0 < i.bytes → (sLen + n) * i.bytes ≤ 140737488355328 →
  (Builtin.append_ #[T, U] ty #[.slice base sLen sCap, x]).run P w = .ok (.slice (some ⟨w.heap.size, 0, none⟩) (sLen + n) (grownCap w (sLen + n) sCap elem))
   (w.drew.alloc (.cells (old ++ arr ++ Builtin.zeroCells z.cells (grownCap w (sLen + n) sCap elem - (sLen + n))) elem))
theorem zeroD_ok {elem : TypeId} {d : D} {i : TypeInfo} {z : Value} (hO : Objs O β X w) (h : zeroD P elem = some d) (hi : P.info? elem = some i) (hz : i.zero = some z) (hzs : z.cells.size = i.size) :
  (d.cells.length = i.size ∧ ∀ x ∈ d.cells, x.one = true) ∧ ∀ (j : Nat) (x : D), d.cells[j]? = some x → RepD w (Mset X β) x (z.cells.getD j undef) := by
 have key : ∀ cs, zeroC P elem = some cs → CR O β X w cs z.cells := fun cs h => by
  obtain ⟨v, h1, h2⟩ := zeroC_ok (P := P) (O := O) (β := β) (X := X) (w := w) h
  have h3 : (zeroValue elem).run P w = .ok z w := by simp [zeroValue, typeInfo, hi, hz]
  rw [h3] at h1
  cases h1
  exact h2
 unfold zeroD at h
 split at h
 ·next zs hag hz2 =>
  split at h
  ·next ds hds =>
   split at h
   ·next hone =>
    cases h
    have hc := key _ hz2
    have hl : ds.length = zs.length := by
     clear hc hone hz2
     induction zs generalizing ds with
     | nil => simp [allD] at hds; subst hds; rfl
     | cons c r ih =>
      cases c with
      | d y =>
       simp only [allD] at hds
       split at hds
       ·next l hl => cases hds; simp [ih _ hl]
       ·cases hds
      | _ => simp [allD] at hds
    have hat : ∀ (j : Nat) (x : D), ds[j]? = some x → zs[j]? = some (AV.d x) := by
     clear hc hone hz2 hl
     induction zs generalizing ds with
     | nil => simp [allD] at hds; subst hds; intro j x h; simp at h
     | cons c r ih =>
      cases c with
      | d y =>
       simp only [allD] at hds
       split at hds
       ·next l hl =>
        cases hds
        intro j x hj
        cases j with
        | zero => cases hj; rfl
        | succ j => exact ih _ hl j x hj
       ·cases hds
      | _ => simp [allD] at hds
    refine ⟨⟨?_, fun x hx => List.all_eq_true.1 hone x hx⟩, fun j x hj => (hc.at_ j _ (hat j x hj)).d_inv⟩
    show ds.length = _
    rw [hl, ← hzs, hc.size]
   ·cases h
  ·cases h
 ·next d' hag hz2 =>
  split at h
  ·next hone =>
   cases h
   have hc := key _ hz2
   have hcells : d.cells = [d] := by cases d <;> first | rfl | simp [D.one] at hone
   rw [hcells]
   refine ⟨⟨?_, fun x hx => by rw [List.mem_singleton.1 hx]; exact hone⟩, fun j x hj => ?_⟩
   ·have := hc.size
    rw [← hzs, this]; rfl
   ·cases j with
    | zero => cases hj; exact (hc.at_ 0 _ rfl).d_inv
    | succ j => simp at hj
  ·cases h
 ·cases h
theorem zeroCells_get (z : Array Value) (n i j : Nat) (hi : i < n) (hj : j < z.size) : (Builtin.zeroCells z n).getD (i * z.size + j) undef = z.getD j undef := by
 have hlt : i * z.size + j < n * z.size := by
  have : (i + 1) * z.size ≤ n * z.size := Nat.mul_le_mul_right _ hi
  rw [Nat.succ_mul] at this
  omega
 unfold Builtin.zeroCells
 rw [Array.getD_eq_getD_getElem?, Array.getElem?_map, Array.getElem?_range]
 simp only [hlt, if_true, Option.map_some, Option.getD_some]
 have hm : (i * z.size + j) % z.size = j := by rw [Nat.mul_comm, Nat.mul_add_mod, Nat.mod_eq_of_lt hj]
 rw [hm, getElem!_pos z j hj, Array.getD_eq_getD_getElem?, Array.getElem?_eq_getElem hj, Option.getD_some]
theorem newsA_ok {T U ty elem : TypeId} {x : AV} {es : List D} {more : List Prop} {vx : Value} {i : TypeInfo} {z : Value} (hT : P.underlying T = some (.slice elem)) (hi : P.info? elem = some i) (hz : i.zero = some z) (hzs : z.cells.size = i.size) (hbp : 0 < i.bytes) (hsz : 0 < i.size)
  (hO : Objs O β X w) (hl : Looks O look) (hx : AR O β X w x vx) (h : newsA P U elem x look = some (es, more)) (hob : ∀ p ∈ more, p) (hbnd : es.length * i.bytes ≤ 140737488355328) (hcs : ∀ e ∈ es, e.cells.length = i.size) :
  ∃ arr, NewsC O β X w i.size es arr ∧ AppR P w T U ty elem i z es.length vx arr := by
 unfold newsA at h
 split at h
 ·next k hU =>
  split at h
  ·next n zd hzd =>
   cases h
   obtain rfl := hx.d_inv.int_inv
   have hn0 : 0 ≤ n := hob _ (by simp)
   obtain ⟨⟨h1, h2⟩, h3⟩ := zeroD_ok hO hzd hi hz hzs
   simp only [List.length_replicate] at hbnd ⊢
   have hnb : n.toNat ≤ 140737488355328 := Nat.le_trans (Nat.le_mul_of_pos_right _ hbp) hbnd
   have hw : IntKind.i64.wrap n = n := by rw [IntKind.wrap_i64]; omega
   have hneg : ¬ n < 0 := by omega
   have hbig : ¬ (n * (i.bytes : Int) > 2 ^ 48) := by
    have e : n * (i.bytes : Int) = ((n.toNat * i.bytes : Nat) : Int) := by
     rw [Int.natCast_mul, Int.toNat_of_nonneg hn0]
    rw [e]
    omega
   have hbig' : ¬ (281474976710656 < n * (i.bytes : Int)) := by simpa using hbig
   have harr : (if n.toNat * i.size = 0 then (#[] : Array Value) else Builtin.zeroCells z.cells n.toNat) = Builtin.zeroCells z.cells n.toNat := by
    split
    ·next h0 =>
     have : n.toNat = 0 := by rcases Nat.mul_eq_zero.1 h0 with h | h <;> omega
     rw [this]; simp [Builtin.zeroCells]
    ·rfl
   refine ⟨Builtin.zeroCells z.cells n.toNat, ⟨?_, ?_, ?_⟩, ⟨?_, ?_⟩⟩
   ·rw [zeroCells_size, hzs, List.length_replicate]
   ·intro e he
    rw [List.eq_of_mem_replicate he]
    exact ⟨h1, h2⟩
   ·intro i1 j e d he hd
    have hi1 := (List.getElem?_eq_some_iff.1 he).1
    rw [List.length_replicate] at hi1
    have hee : e = zd := List.eq_of_mem_replicate (List.mem_of_getElem? he)
    subst hee
    have hj : j < z.cells.size := by rw [hzs, ← h1]; exact (List.getElem?_eq_some_iff.1 hd).1
    rw [← hzs, zeroCells_get _ _ _ _ hi1 hj]
    exact h3 j d hd
   ·intro base sLen sCap w' hroom hst hbd
    by_cases h0 : n.toNat * i.size = 0
    ·have e0 : n.toNat = 0 := by rcases Nat.mul_eq_zero.1 h0 with h | h <;> omega
     have ez : Builtin.zeroCells z.cells n.toNat = #[] := by rw [e0]; simp [Builtin.zeroCells]
     rw [ez] at hst
     cases base with
     | none => subst hst; simp [Builtin.append_, run_underlying hT, run_underlying hU, sizeOf, typeInfo, hi, asInt, asIntOf, hw, hneg, hbig', hroom, h0]
     | some a => simp [Builtin.append_, run_underlying hT, run_underlying hU, sizeOf, typeInfo, hi, asInt, asIntOf, hw, hneg, hbig', hroom, h0, hst]
    ·cases base with
     | none => subst hst; simp [Builtin.append_, run_underlying hT, run_underlying hU, sizeOf, typeInfo, hi, asInt, asIntOf, hw, hneg, hbig', hroom, h0, zeroValue, hz]
     | some a => simp [Builtin.append_, run_underlying hT, run_underlying hU, sizeOf, typeInfo, hi, asInt, asIntOf, hw, hneg, hbig', hroom, h0, zeroValue, hz, hst]
   ·intro base sLen sCap old hold hgrow _ hb
    have hnot : ¬ sLen + n.toNat ≤ sCap := by omega
    have hneed : sLen + n.toNat ≤ 140737488355328 := Nat.le_trans (Nat.le_mul_of_pos_right _ hbp) hb
    have h48 : ¬ (281474976710656 < Builtin.nextslicecap (sLen + n.toNat) sCap * i.bytes) := by
     have := growslice_fits hgrow hb
     omega
    have hmax : ¬ (IntKind.i64.max < (sLen : Int) + (n.toNat : Int)) := by
     have : IntKind.i64.max = 9223372036854775807 := by decide
     omega
    have hmax2 : ¬ (IntKind.i64.max < (sLen : Int) + n) := by
     have : IntKind.i64.max = 9223372036854775807 := by decide
     omega
    have hmax3 : ¬ (IntKind.i64.max < (sLen : Int) + max n 0) := by
     have : IntKind.i64.max = 9223372036854775807 := by decide
     omega
    have hmax4 : ¬ (9223372036854775807 < (sLen : Int) + max n 0) := by omega
    by_cases h0 : n.toNat * i.size = 0
    ·have e0 : n.toNat = 0 := by rcases Nat.mul_eq_zero.1 h0 with h | h <;> omega
     have ez : Builtin.zeroCells z.cells n.toNat = #[] := by rw [e0]; simp [Builtin.zeroCells]
     rw [ez]
     simp [Builtin.append_, run_underlying hT, run_underlying hU, sizeOf, typeInfo, hi, asInt, asIntOf, hw, hneg, hbig', hnot, h48, hold, h0, Question.forced, newRow, grownCap, zeroValue, hz, hmax, hmax2, hmax3, hmax4]
    ·simp [Builtin.append_, run_underlying hT, run_underlying hU, sizeOf, typeInfo, hi, asInt, asIntOf, hw, hneg, hbig', hnot, h48, hold, h0, Question.forced, newRow, grownCap, zeroValue, hz, hmax, hmax2, hmax3, hmax4]
  ·cases h
 ·next hnU =>
  split at h
  ·next l hl2 =>
   cases h
   obtain ⟨⟨d, hU, hd⟩, arr, hN⟩ := newsOf_ok hsz hO hl hx hl2 hcs
   refine ⟨arr, hN.c, ⟨fun hroom hst _ => run_append_room' (ty := ty) hT hU hd hi hN.len hN.cells hroom hst, fun hold hgrow hb0 hb => run_append_grow' (ty := ty) hT hU hd hi hz hN.len hN.cells' hold hgrow hb0 hb⟩⟩
  ·cases h
theorem append_at {sz : Nat} {es news : List D} {old arr : Array Value} (h0 : NewsC O β X w sz es old) (h1 : NewsC O β X w sz news arr) (rest : Array Value) :
  (∀ e ∈ es ++ news, e.cells.length = sz ∧ ∀ d ∈ e.cells, d.one = true) ∧ (es ++ news).length * sz ≤ (old ++ arr ++ rest).size ∧
  ∀ i j e d, (es ++ news)[i]? = some e → e.cells[j]? = some d → RepD w (Mset X β) d ((old ++ arr ++ rest).getD (i * sz + j) undef) := by
 refine ⟨fun e he => ?_, ?_, fun i j e d hi hj => ?_⟩
 ·rcases List.mem_append.1 he with h | h
  ·exact h0.ok e h
  ·exact h1.ok e h
 ·simp only [List.length_append, Array.size_append, h0.size, h1.size, Nat.add_mul]
  omega
 ·rw [Array.getD_eq_getD_getElem?]
  by_cases h : i < es.length
  ·rw [List.getElem?_append_left h] at hi
   obtain ⟨-, -, hij⟩ := idx_lt h0.ok hi hj
   rw [Array.append_assoc, Array.getElem?_append_left (by rw [h0.size]; exact hij), ← Array.getD_eq_getD_getElem?]
   exact h0.at_ i j e d hi hj
  ·rw [List.getElem?_append_right (by omega)] at hi
   obtain ⟨k1, k2, hij⟩ := idx_lt h1.ok hi hj
   have e1 : i * sz + j = es.length * sz + ((i - es.length) * sz + j) := by
    have : i = es.length + (i - es.length) := by omega
    rw [this, Nat.add_mul]; simp; omega
   rw [e1, Array.append_assoc, Array.getElem?_append_right (by rw [h0.size]; omega), h0.size, Array.getElem?_append_left (by rw [h1.size]; omega), ← Array.getD_eq_getD_getElem?]
   rw [show es.length * sz + ((i - es.length) * sz + j) - es.length * sz = (i - es.length) * sz + j by omega]
   exact h1.at_ (i - es.length) j e d hi hj
theorem baseOf_ok {x : AV} {o sz : Nat} {es0 : List D} {vx : Value} (hO : Objs O β X w) (hl : Looks O look) (hx : AR O β X w x vx) (h : baseOf x look = some (some o, sz, es0)) :
  ∃ szr es g a c, O o = .row szr es ∧ β o = .row szr es.length g ∧ szr = sz ∧ es0 = es.take es0.length ∧ es0.length ≤ es.length ∧ vx = .slice a es0.length c ∧ es.length ≤ c ∧ OwnV g sz 0 es0.length vx := by
 unfold baseOf at h
 split at h
 ·next o' sz' =>
  split at h
  ·next szr es hlk =>
   cases h
   have hβe : ∃ g, β o = .row szr es0.length g := by
    rcases hO.row (hl.row hlk) with ⟨rfl, hβ⟩ | ⟨b, cur, t, lo, hi, hβ, -⟩
    ·exact ⟨_, hβ⟩
    ·exact ⟨_, hβ⟩
   obtain ⟨g, hβ⟩ := hβe
   cases hx with
   | own o sz v hC hone hv =>
    obtain ⟨e1, hw⟩ := hv _ _ _ hβ
    obtain ⟨a, c, rfl, h3⟩ := hw
    exact ⟨szr, es0, g, a, c, hl.row hlk, hβ, e1, by simp, Nat.le_refl _, rfl, h3.1, a, c, rfl, h3⟩
  ·cases h
 ·next o' sz' lo n =>
  split at h
  ·next szr es hlk =>
   split at h
   ·next hlo =>
    subst hlo
    cases h
    have hβe : ∃ g, β o = .row szr es.length g := by
     rcases hO.row (hl.row hlk) with ⟨rfl, hβ⟩ | ⟨b, cur, t, lo, hi, hβ, -⟩
     ·exact ⟨_, hβ⟩
     ·exact ⟨_, hβ⟩
    obtain ⟨g, hβ⟩ := hβe
    cases hx with
    | sub o sz lo n v hC hone hv =>
     obtain ⟨e1, hn, hw⟩ := hv _ _ _ hβ
     have hlen : (es.take n).length = n := by simp; omega
     obtain ⟨a, c, rfl, h3⟩ := hw
     have hcap := hn.2 _ _ _ rfl
     refine ⟨szr, es, g, a, c, hl.row hlk, hβ, e1, by rw [hlen], by rw [hlen]; omega, by rw [hlen], by omega, ?_⟩
     rw [hlen]
     exact ⟨a, c, rfl, h3⟩
   ·cases h
  ·cases h
 ·cases h
 ·cases h
theorem ownV_grown (w : World) {sz n cap : Nat} {sizeAll : Nat} (h1 : n ≤ cap) (h2 : cap * sz ≤ sizeAll) : OwnV (some (w.heap.size, sizeAll)) sz 0 n (.slice (some ⟨w.heap.size, 0, none⟩) n cap) :=
 ⟨_, _, rfl, h1, fun _ => ⟨_, _, rfl, by simp, by simpa using h2⟩⟩
theorem actAppend_ok {dst : Nat} {T U ty : TypeId} {s x : AV} {e : Eff} {vs vx : Value} (hO : Objs O β X w) (hl : Looks O look) (hs : AR O β X w s vs) (hx : AR O β X w x vx)
  (ha : actAppend P dst T U s x look = some e) (hob : ∀ p ∈ e.obs, p) :
  ∃ v w' β', (Builtin.append_ #[T, U] ty #[vs, vx]).run P w = .ok v w' ∧ Done O β X w e v β' w' := by
 unfold actAppend at ha
 split at ha
 ·next elem hlk hT =>
  split at ha
  ·next sz z o sz' es0 news more hsz hz hbase hnews =>
   split at ha
   ·next hcond =>
    obtain ⟨h0, hzl, hszo, hbp⟩ := hcond
    cases ha
    have hbnd : (es0.length + news.length) * bytesT P elem ≤ 140737488355328 := hob _ (by simp)
    have hcs : ∀ e ∈ news, e.cells.length = sz := hob _ (by simp)
    obtain ⟨i, hi, hisz⟩ := szT_info hsz
    subst hisz
    have hby : bytesT P elem = i.bytes := by simp [bytesT, hi]
    rw [hby] at hbp hbnd
    obtain ⟨z0, hz0, hzc⟩ : ∃ z0, i.zero = some z0 ∧ z0.cells.size = i.size := by
     unfold zeroC at hz
     rw [hi] at hz
     simp only at hz
     split at hz
     ·next v hv => cases hz; exact ⟨v, hv, by simpa using hzl⟩
     ·cases hz
    obtain ⟨arr, hN, hA⟩ := newsA_ok (ty := ty) hT hi hz0 hzc hbp h0 hO hl hx hnews (fun p hp => hob p (by simp [hp])) (by
     have : news.length * i.bytes ≤ (es0.length + news.length) * i.bytes := Nat.mul_le_mul_right _ (by omega)
     omega) hcs
    have hnn := hl.none hlk
    cases o with
    | none =>
     have hsn : vs = .slice none 0 0 ∧ es0 = [] := by
      unfold baseOf at hbase
      split at hbase
      ·split at hbase <;> cases hbase
      ·split at hbase
       ·split at hbase <;> cases hbase
       ·cases hbase
      ·cases hbase; exact ⟨hs.raw_inv, rfl⟩
      ·cases hbase
     obtain ⟨rfl, rfl⟩ := hsn
     simp only [List.nil_append, List.length_nil, Nat.zero_add] at hbnd ⊢
     by_cases hne : news = []
     ·subst hne
      have hrun := hA.room (base := none) (sLen := 0) (sCap := 0) (by simp) rfl (by simp)
      have hcr := hO.create (ob := .row i.size []) (he := .row i.size 0 none) hnn (Evo.refl _ _) (fun b hb => by cases hb) (by simp) (fun _ => .rowN _)
      refine ⟨_, _, _, hrun, Done.of_one hcr (.own _ _ _ (by simp [upd_same]) rfl fun sz2 len g hb => ?_)⟩
      rw [upd_same] at hb
      cases hb
      exact ⟨rfl, none, 0, rfl, Nat.le_refl _, fun h => absurd h (by omega)⟩
     ·have hpos := List.length_pos_iff.2 hne
      have hrun := hA.grow (base := none) (sLen := 0) (sCap := 0) (old := #[]) rfl (by omega) hbp (by simpa using hbnd)
      obtain ⟨k1, k2, k3⟩ := append_at (sz := i.size) (es := []) (old := #[]) ⟨by simp, by simp, by simp⟩ hN
       (Builtin.zeroCells z0.cells (grownCap w (0 + news.length) 0 elem - (0 + news.length)))
      simp only [List.nil_append] at k1 k2 k3
      have hrow := new_row (sz := i.size) (es := news) hO hnn elem 0 0 (.inl rfl) k1 k2 k3 _ (((Evo.refl _ w).drew).alloc _) (heap_alloc_new w.drew _)
      refine ⟨_, _, _, hrun, Done.of_one hrow (.own _ _ _ (by simp [upd_same]) rfl fun sz2 len g hb => ?_)⟩
      rw [upd_same] at hb
      cases hb
      refine ⟨rfl, ?_⟩
      have hge := grownCap_ge w (0 + news.length) 0 elem
      rw [show 0 + news.length = news.length by omega] at hge ⊢
      refine ownV_grown w hge ?_
      simp only [Array.size_append, zeroCells_size, hN.size, hzc, Array.size_empty, Nat.zero_add, ← Nat.add_mul]
      exact Nat.mul_le_mul_right _ (by omega)
    | some o =>
     have hszo' : sz' = i.size := hszo.resolve_left (by simp)
     subst hszo'
     obtain ⟨szr, es, g, a, c, hOo, hβo, rfl, htk, hle, rfl, hcap, hown⟩ := baseOf_ok hO hl hs hbase
     obtain ⟨a', c', heq, hnc, hbk⟩ := hown
     cases heq
     have hOn : O o ≠ .none := by rw [hOo]; simp
     have hne2 : newName dst 0 ≠ o := by intro h; rw [h] at hnn; exact hOn hnn
     have hEl : Elems O β X w i.size es0 a := by
      have h3 : rowOf (.sub o i.size 0 es0.length) (fun n => O n) = some es0 := by
       simp only [rowOf, hOo, List.drop_zero]
       exact congrArg some htk.symm
      have h4 : AR O β X w (.sub o i.size 0 es0.length) (.slice a es0.length c) := .sub _ _ _ _ _ hOn rfl fun sz2 len2 g2 hb2 => by
       rw [hβo] at hb2
       cases hb2
       exact ⟨rfl, ⟨by omega, fun a2 n2 c2 he => by cases he; omega⟩, a, c, rfl, hnc, hbk⟩
      obtain ⟨a2, c2, sz2, heq2, hE2, -⟩ := rowOf_ok hO (fun n => .inl rfl) h4 h3
      cases heq2
      by_cases hes : es0 = []
      ·subst hes; exact ⟨by simp, by simp⟩
      ·have hsz2 : sz2 = i.size := by
        obtain ⟨e0, r0, hr0⟩ := List.exists_cons_of_ne_nil hes
        have hm : e0 ∈ es0 := by rw [hr0]; simp
        have h5 := (hE2.ok e0 hm).1
        have hm2 : e0 ∈ es := by rw [htk] at hm; exact List.mem_of_mem_take hm
        rcases hO.row hOo with ⟨rfl, -⟩ | ⟨b, cur, t, lo, hi, hβ, hb, hf, hsz2, hlen, hr⟩
        ·cases hm2
        ·rw [← h5, (hsz2 e0 hm2).1]
       subst hsz2
       exact hE2
     obtain ⟨old, hN0⟩ := elems_load (P := P) h0 hEl c
     by_cases hroom : es0.length + news.length ≤ c
     ·by_cases hcz : c = 0
      ·
       subst hcz
       have he0 : es0 = [] := List.eq_nil_of_length_eq_zero (by omega)
       have hn0 : news = [] := List.eq_nil_of_length_eq_zero (by omega)
       subst he0 hn0
       have harr : arr = #[] := Array.eq_empty_of_size_eq_zero (by rw [hN.size]; simp)
       have hrun := hA.room (base := a) (w' := w) hroom (by subst harr; cases a <;> rfl) hbnd
       have hcr := hO.replace (ob := .row i.size []) (he := .row i.size 0 none) hOn hnn (Evo.refl _ _) (fun b hb => by cases hb) (by simp) (fun _ => .rowN _)
       refine ⟨_, _, _, hrun, ⟨.own _ _ _ (by simp [updL, upd_same]) rfl fun sz2 len g hb => ?_, hcr.1, hcr.2⟩⟩
       rw [upd_same] at hb
       cases hb
       exact ⟨rfl, a, 0, rfl, Nat.le_refl _, fun h => absurd h (by omega)⟩
      ·obtain ⟨b, cnt, rfl, rfl, hfit⟩ := hbk (by omega)
       rcases hO.row hOo with ⟨rfl, hβ⟩ | ⟨b', cur, t, lo, hi', hβ, hb, hf, hsz2, hlen, hr⟩
       ·rw [hβo] at hβ; cases hβ
       ·rw [hβo] at hβ
        cases hβ
        simp only [Nat.zero_add] at hfit
        have hfit2 : es0.length * i.size + arr.toList.length ≤ cur.size := by
         have h6 : (es0.length + news.length) * i.size ≤ c * i.size := Nat.mul_le_mul_right _ hroom
         have h7 := hN.size
         rw [Nat.add_mul] at h6
         simp only [Array.length_toList]
         omega
        have hone : ∀ v ∈ arr.toList, v.oneCell' = true := by
         intro v hv
         obtain ⟨k, hk, rfl⟩ := List.getElem_of_mem hv
         simp only [Array.length_toList] at hk
         have hk2 := hk
         rw [hN.size] at hk2
         have hdiv : k / i.size < news.length := Nat.div_lt_of_lt_mul (by rw [Nat.mul_comm]; exact hk2)
         have hmod := Nat.mod_lt k h0
         have hc1 := (hN.ok _ (List.getElem_mem hdiv)).1
         have hcell : (news[k / i.size]).cells[k % i.size]? = some (news[k / i.size]).cells[k % i.size] := List.getElem?_eq_getElem (by rw [hc1]; exact hmod)
         have hrep := hN.at_ (k / i.size) (k % i.size) _ _ (List.getElem?_eq_getElem hdiv) hcell
         rw [Nat.mul_comm, Nat.div_add_mod] at hrep
         have h8 := (hrep.one ((hN.ok _ (List.getElem_mem hdiv)).2 _ (List.getElem_mem _))).1
         simpa [Array.getD_eq_getD_getElem?, hk] using h8
        have hst := run_storeCells (P := P) b (es0.length * i.size) t lo hi' arr.toList 0 cur w hb (by simpa using hfit2) hf.out hone
        simp only [Nat.add_zero] at hst
        have hrun := hA.room (base := some ⟨b, 0 * i.size, none⟩)
         (w' := w.setRow b (cur.toList.take (es0.length * i.size) ++ arr.toList ++ cur.toList.drop (es0.length * i.size + arr.toList.length)).toArray) hroom
         (by
          show (storeCells ((Addr.mk b (0 * i.size) none).add (es0.length * i.size)) arr.toList).run P w = _
          rw [add_mk, Nat.zero_mul, Nat.zero_add]; exact hst) hbnd
        have hsize : (cur.toList.take (es0.length * i.size) ++ arr.toList ++ cur.toList.drop (es0.length * i.size + arr.toList.length)).toArray.size = cur.size := by
         simp only [List.size_toArray, List.length_append, List.length_take, List.length_drop, Array.length_toList]
         simp only [Array.length_toList] at hfit2
         omega
        have hlenall : (es0 ++ news).length * i.size ≤ cur.size := by
         have h6 : (es0.length + news.length) * i.size ≤ c * i.size := Nat.mul_le_mul_right _ hroom
         rw [List.length_append]
         omega
        have hmv := hO.move (n := newName dst 0) (ob := .row i.size (es0 ++ news)) (he := .row i.size (es0 ++ news).length (some (b, cur.size))) hOn (by rw [hβo]; rfl) hnn
         (setRow_evo w b (cur.toList.take (es0.length * i.size) ++ arr.toList ++ cur.toList.drop (es0.length * i.size + arr.toList.length)).toArray) (fun b' hb' => by cases hb'; rfl) (by simp) fun hstep => by
          have hh := ObjRel.row (M := Mset X (upd (upd β o .gone) (newName dst 0) (.row i.size (es0 ++ news).length (some (b, cur.size)))))
           (β := upd (upd β o .gone) (newName dst 0) (.row i.size (es0 ++ news).length (some (b, cur.size)))) (C := fun x => upd (upd O o .gone) (newName dst 0) (Ob.row i.size (es0 ++ news)) x ≠ Ob.none)
           i.size (es0 ++ news) b _ t lo hi' (setRow_heap w b cur _ t _ hb) (by rw [hsize]; exact hf)
           (fun e he => by
            rcases List.mem_append.1 he with h | h
            ·exact hN0.ok e h
            ·exact hN.ok e h)
           (by rw [hsize]; exact hlenall)
           (fun i1 j e d h1 h2 => by
            rw [getD_setAt' hfit2 (n := news.length * i.size) (by simpa using hN.size)]
            by_cases hlt : i1 < es0.length
            ·rw [List.getElem?_append_left hlt] at h1
             obtain ⟨-, hj, hij⟩ := idx_lt hN0.ok h1 h2
             rw [if_neg (by omega)]
             have h9 : es[i1]? = some e := by
              rw [htk, List.getElem?_take_of_lt hlt] at h1
              exact h1
             exact hstep.repd (hr i1 j e d h9 h2)
            ·rw [List.getElem?_append_right (by omega)] at h1
             obtain ⟨k1, hj, hij⟩ := idx_lt hN.ok h1 h2
             have e1 : i1 * i.size + j = es0.length * i.size + ((i1 - es0.length) * i.size + j) := by
              have : i1 = es0.length + (i1 - es0.length) := by omega
              rw [this, Nat.add_mul]; simp; omega
             rw [if_pos (by omega), e1, show es0.length * i.size + ((i1 - es0.length) * i.size + j) - es0.length * i.size = (i1 - es0.length) * i.size + j by omega]
             have h9 := hstep.repd (hN.at_ (i1 - es0.length) j e d h1 h2)
             rw [List.getD_eq_getElem?_getD, Array.getElem?_toList, ← Array.getD_eq_getD_getElem?]
             exact h9)
          rw [hsize] at hh
          exact hh
        refine ⟨_, _, _, hrun, ⟨.own _ _ _ (by simp [updL, upd_same]) rfl fun sz2 len g hb => ?_, hmv.1, hmv.2⟩⟩
        rw [upd_same] at hb
        cases hb
        refine ⟨rfl, _, _, ?_, by rw [List.length_append]; exact hroom, fun _ => ⟨b, cur.size, rfl, rfl, by simpa using hfit⟩⟩
        rw [List.length_append]
     ·
      have hrun := hA.grow (base := a) (sLen := es0.length) (sCap := c) hN0.cells' (by omega) hbp hbnd
      obtain ⟨k1, k2, k3⟩ := append_at hN0.c hN (Builtin.zeroCells z0.cells (grownCap w (es0.length + news.length) c elem - (es0.length + news.length)))
      have hevo : Evo (fun _ => False) w (w.drew.alloc (.cells (old ++ arr ++ Builtin.zeroCells z0.cells (grownCap w (es0.length + news.length) c elem - (es0.length + news.length))) elem)) := ((Evo.refl _ w).drew).alloc _
      have hrp := hO.replace (n := newName dst 0) (ob := .row i.size (es0 ++ news))
       (he := .row i.size (es0 ++ news).length (some (w.heap.size, (old ++ arr ++ Builtin.zeroCells z0.cells (grownCap w (es0.length + news.length) c elem - (es0.length + news.length))).size)))
       hOn hnn hevo (fun b hb => by cases hb; rfl) (by simp) fun hstep =>
        .row i.size (es0 ++ news) w.heap.size _ elem 0 0 (heap_alloc_new w.drew _) (.inl rfl) k1 k2 fun i1 j e d h1 h2 => hstep.repd (k3 i1 j e d h1 h2)
      refine ⟨_, _, _, hrun, ⟨.own _ _ _ (by simp [updL, upd_same]) rfl fun sz2 len g hb => ?_, hrp.1, hrp.2⟩⟩
      rw [upd_same] at hb
      cases hb
      refine ⟨rfl, ?_⟩
      have hge := grownCap_ge w (es0.length + news.length) c elem
      rw [List.length_append]
      refine ownV_grown w hge ?_
      simp only [Array.size_append, zeroCells_size, hN.size, hN0.size, hzc, ← Nat.add_mul]
      exact Nat.mul_le_mul_right _ (by omega)
   ·cases ha
  ·cases ha
 ·cases ha
theorem newsC_one {sz : Nat} {news : List D} {arr : Array Value} (h0 : 0 < sz) (hN : NewsC O β X w sz news arr) : ∀ v ∈ arr.toList, v.oneCell' = true := by
 intro v hv
 obtain ⟨k, hk, rfl⟩ := List.getElem_of_mem hv
 simp only [Array.length_toList] at hk
 have hk2 := hk
 rw [hN.size] at hk2
 have hdiv : k / sz < news.length := Nat.div_lt_of_lt_mul (by rw [Nat.mul_comm]; exact hk2)
 have hmod := Nat.mod_lt k h0
 have hc1 := (hN.ok _ (List.getElem_mem hdiv)).1
 have hcell : (news[k / sz]).cells[k % sz]? = some (news[k / sz]).cells[k % sz] := List.getElem?_eq_getElem (by rw [hc1]; exact hmod)
 have hrep := hN.at_ (k / sz) (k % sz) _ _ (List.getElem?_eq_getElem hdiv) hcell
 rw [Nat.mul_comm, Nat.div_add_mod] at hrep
 have h8 := (hrep.one ((hN.ok _ (List.getElem_mem hdiv)).2 _ (List.getElem_mem _))).1
 simpa [Array.getD_eq_getD_getElem?, hk] using h8
/-- A stretch of a row is written in place. -/
theorem row_put {o sz : Nat} {es : List D} (h0 : 0 < sz) (hO : Objs O β X w) (hOo : O o = .row sz es) (hne : es ≠ []) {m : Nat} {news : List D} {arr : Array Value} (hN : NewsC O β X w sz news arr) (hm : m + news.length ≤ es.length) :
  ∃ b cnt w', β o = .row sz es.length (some (b, cnt)) ∧ (storeCells ⟨b, m * sz, none⟩ arr.toList).run P w = .ok () w' ∧
   Objs (upd O o (.row sz (es.take m ++ news ++ es.drop (m + news.length)))) β X w' ∧ Step O (upd O o (.row sz (es.take m ++ news ++ es.drop (m + news.length)))) β β w w' := by
 rcases hO.row hOo with ⟨rfl, -⟩ | ⟨b, cur, t, lo, hi, hβ, hb, hf, hsz2, hlen, hr⟩
 ·exact absurd rfl hne
 ·have hmul : (m + news.length) * sz ≤ es.length * sz := Nat.mul_le_mul_right _ hm
  rw [Nat.add_mul] at hmul
  have hfit : m * sz + arr.toList.length ≤ cur.size := by
   have := hN.size
   simp only [Array.length_toList]
   omega
  have hst := run_storeCells (P := P) b (m * sz) t lo hi arr.toList 0 cur w hb (by simpa using hfit) hf.out (newsC_one h0 hN)
  simp only [Nat.add_zero] at hst
  have hsize : (cur.toList.take (m * sz) ++ arr.toList ++ cur.toList.drop (m * sz + arr.toList.length)).toArray.size = cur.size := by
   simp only [List.size_toArray, List.length_append, List.length_take, List.length_drop, Array.length_toList]
   simp only [Array.length_toList] at hfit
   omega
  have hlen2 : (es.take m ++ news ++ es.drop (m + news.length)).length = es.length := by
   simp only [List.length_append, List.length_take, List.length_drop]
   omega
  have hOn : O o ≠ .none := by rw [hOo]; simp
  have hwr := hO.write (n := o) (b := b) (ob := .row sz (es.take m ++ news ++ es.drop (m + news.length))) hOn (by rw [hβ]; rfl)
   (setRow_evo w b (cur.toList.take (m * sz) ++ arr.toList ++ cur.toList.drop (m * sz + arr.toList.length)).toArray) (by simp) fun hstep => by
    have hh := ObjRel.row (M := Mset X β) (β := β) (C := fun x => upd O o (Ob.row sz (es.take m ++ news ++ es.drop (m + news.length))) x ≠ Ob.none)
     sz (es.take m ++ news ++ es.drop (m + news.length)) b _ t lo hi (setRow_heap w b cur _ t _ hb) (by rw [hsize]; exact hf)
     (fun e he => by
      rcases List.mem_append.1 he with h | h
      ·rcases List.mem_append.1 h with h | h
       ·exact hsz2 e (List.mem_of_mem_take h)
       ·exact hN.ok e h
      ·exact hsz2 e (List.mem_of_mem_drop h))
     (by rw [hsize, hlen2]; exact hlen)
     (fun i1 j e d h1 h2 => by
      rw [getD_setAt' hfit (n := news.length * sz) (by simpa using hN.size)]
      have hel : e.cells.length = sz := by
       have hm1 := List.mem_of_getElem? h1
       rcases List.mem_append.1 hm1 with h | h
       ·rcases List.mem_append.1 h with h | h
        ·exact (hsz2 e (List.mem_of_mem_take h)).1
        ·exact (hN.ok e h).1
       ·exact (hsz2 e (List.mem_of_mem_drop h)).1
      have hj : j < sz := by rw [← hel]; exact (List.getElem?_eq_some_iff.1 h2).1
      have htl : (es.take m).length = m := by simp; omega
      by_cases hlt : i1 < m
      ·have hij : (i1 + 1) * sz ≤ m * sz := Nat.mul_le_mul_right _ hlt
       rw [Nat.succ_mul] at hij
       rw [if_neg (by omega)]
       rw [List.append_assoc, List.getElem?_append_left (by rw [htl]; exact hlt), List.getElem?_take_of_lt hlt] at h1
       exact hstep.repd (hr i1 j e d h1 h2)
      ·by_cases hlt2 : i1 < m + news.length
       ·rw [List.append_assoc, List.getElem?_append_right (by rw [htl]; omega), htl, List.getElem?_append_left (by omega)] at h1
        have e1 : i1 * sz + j = m * sz + ((i1 - m) * sz + j) := by
         have : i1 = m + (i1 - m) := by omega
         rw [this, Nat.add_mul]; simp; omega
        have hij : (i1 - m + 1) * sz ≤ news.length * sz := Nat.mul_le_mul_right _ (by omega)
        rw [Nat.succ_mul] at hij
        rw [if_pos (by omega), e1, show m * sz + ((i1 - m) * sz + j) - m * sz = (i1 - m) * sz + j by omega]
        have h9 := hstep.repd (hN.at_ (i1 - m) j e d h1 h2)
        rw [List.getD_eq_getElem?_getD, Array.getElem?_toList, ← Array.getD_eq_getD_getElem?]
        exact h9
       ·have hij : (m + news.length) * sz ≤ i1 * sz := Nat.mul_le_mul_right _ (by omega)
        rw [Nat.add_mul] at hij
        rw [if_neg (by omega)]
        rw [List.getElem?_append_right (by rw [List.length_append, htl]; omega), List.length_append, htl, List.getElem?_drop, show m + news.length + (i1 - (m + news.length)) = i1 by omega] at h1
        exact hstep.repd (hr i1 j e d h1 h2))
    rw [hsize, hlen2] at hh
    rw [hβ]
    exact hh
  exact ⟨b, cur.size, _, hβ, hst, hwr.1, hwr.2⟩
theorem zero_info {elem : TypeId} {z : List AV} {i : TypeInfo} (hi : P.info? elem = some i) (hz : zeroC P elem = some z) (hzl : z.length = i.size) : ∃ z0, i.zero = some z0 ∧ z0.cells.size = i.size := by
 unfold zeroC at hz
 rw [hi] at hz
 simp only at hz
 split at hz
 ·next v hv => cases hz; exact ⟨v, hv, by simpa using hzl⟩
 ·cases hz
theorem actAppendIn_ok {T U ty : TypeId} {s x : AV} {e : Eff} {vs vx : Value} (hO : Objs O β X w) (hl : Looks O look) (hs : AR O β X w s vs) (hx : AR O β X w x vx)
  (ha : actAppendIn P T U s x look = some e) (hob : ∀ p ∈ e.obs, p) :
  ∃ v w' β', (Builtin.append_ #[T, U] ty #[vs, vx]).run P w = .ok v w' ∧ Done O β X w e v β' w' := by
 unfold actAppendIn at ha
 split at ha
 ·next o sz' lo m o' szx lox nx =>
  split at ha
  ·next szr es elem el2 hlk hT hU =>
   split at ha
   ·next sz z news hsz hz hnews =>
    split at ha
    ·next hcond =>
     obtain ⟨rfl, rfl, rfl, h0, hzl, hbp⟩ := hcond
     cases ha
     have hne : es ≠ [] := hob _ (by simp)
     have hm : m + news.length ≤ es.length := hob _ (by simp)
     have hbnd : (m + news.length) * bytesT P elem ≤ 140737488355328 := hob _ (by simp)
     have hcs : ∀ e ∈ news, e.cells.length = sz' := hob _ (by simp)
     obtain ⟨i, hi, hisz⟩ := szT_info hsz
     subst hisz
     have hby : bytesT P elem = i.bytes := by simp [bytesT, hi]
     rw [hby] at hbp hbnd
     obtain ⟨z0, hz0, hzc⟩ := zero_info hi hz hzl
     have hnA : newsA P U elem (.sub o szx lox nx) look = some (news, []) := by
      unfold newsA newsOf
      rw [hU]
      simp only [hnews]
     obtain ⟨arr, hN, hA⟩ := newsA_ok (ty := ty) hT hi hz0 hzc hbp h0 hO hl hx hnA (by simp) (by
      have : news.length * i.bytes ≤ (m + news.length) * i.bytes := Nat.mul_le_mul_right _ (by omega)
      omega) hcs
     have hOo := hl.row hlk
     cases hs with
     | sub o sz lo n v hC hone hv =>
      obtain ⟨g, hβ0⟩ : ∃ g, β o = .row szr es.length g := by
       rcases hO.row hOo with ⟨rfl, hβ⟩ | ⟨b, cur, t, lo, hi, hβ, -⟩
       ·exact absurd rfl hne
       ·exact ⟨_, hβ⟩
      obtain ⟨rfl, hb1, a, c, rfl, hnc, hbk⟩ := hv _ _ _ hβ0
      have hcap := hb1.2 _ _ _ rfl
      have hpos : 0 < es.length := List.length_pos_iff.2 hne
      obtain ⟨b, cnt, w', hβ, hst, h1, h2⟩ := row_put (P := P) h0 hO hOo hne hN hm
      rw [hβ0] at hβ
      cases hβ
      obtain ⟨b', cnt', hg, rfl, hfit⟩ := hbk (by omega)
      cases hg
      have hrun := hA.room (base := some ⟨b, 0 * i.size, none⟩) (sLen := m) (sCap := c) (w' := w') (by omega) (by
       show (storeCells ((Addr.mk b (0 * i.size) none).add (m * i.size)) arr.toList).run P w = _
       rw [add_mk, Nat.zero_mul, Nat.zero_add]; exact hst) hbnd
      refine ⟨_, _, β, hrun, ⟨.sub _ _ _ _ _ (by simp [updL, upd_same]) rfl fun sz2 len g hb => ?_, h1, h2⟩⟩
      rw [hβ0] at hb
      cases hb
      refine ⟨rfl, ⟨by omega, fun a2 n2 c2 he => by cases he; omega⟩, _, _, rfl, by omega, fun _ => ⟨b, cnt, rfl, rfl, hfit⟩⟩
    ·cases ha
   ·cases ha
  ·cases ha
 ·cases ha
theorem actClear_ok {T ty : TypeId} {x : AV} {e : Eff} {vx : Value} (hO : Objs O β X w) (hl : Looks O look) (hx : AR O β X w x vx)
  (ha : actClear P T x look = some e) (hob : ∀ p ∈ e.obs, p) :
  ∃ v w' β', (Builtin.clear_ #[T] ty #[vx]).run P w = .ok v w' ∧ Done O β X w e v β' w' := by
 unfold actClear at ha
 split at ha
 ·next o sz' lo n =>
  split at ha
  ·next szr es elem hlk hT =>
   split at ha
   ·next sz z zd hsz hz hzd =>
    split at ha
    ·next hcond =>
     obtain ⟨rfl, h0, hzl⟩ := hcond
     cases ha
     have hne : es ≠ [] := hob _ (by simp)
     have hn : 0 < n := hob _ (by simp)
     have hm : lo + n ≤ es.length := hob _ (by simp)
     obtain ⟨i, hi, hisz⟩ := szT_info hsz
     subst hisz
     obtain ⟨z0, hz0, hzc⟩ := zero_info hi hz hzl
     obtain ⟨⟨k1, k2⟩, k3⟩ := zeroD_ok hO hzd hi hz0 hzc
     have hN : NewsC O β X w i.size (List.replicate n zd) (Builtin.zeroCells z0.cells n) := by
      refine ⟨?_, ?_, ?_⟩
      ·rw [zeroCells_size, hzc, List.length_replicate]
      ·intro e he
       rw [List.eq_of_mem_replicate he]
       exact ⟨k1, k2⟩
      ·intro i1 j e d he hd
       have hi1 := (List.getElem?_eq_some_iff.1 he).1
       rw [List.length_replicate] at hi1
       have hee : e = zd := List.eq_of_mem_replicate (List.mem_of_getElem? he)
       subst hee
       have hj : j < z0.cells.size := by rw [hzc, ← k1]; exact (List.getElem?_eq_some_iff.1 hd).1
       rw [← hzc, zeroCells_get _ _ _ _ hi1 hj]
       exact k3 j d hd
     have hOo := hl.row hlk
     cases hx with
     | sub o sz lo n v hC hone hv =>
      obtain ⟨g, hβ0⟩ : ∃ g, β o = .row szr es.length g := by
       rcases hO.row hOo with ⟨rfl, hβ⟩ | ⟨b, cur, t, lo, hi, hβ, -⟩
       ·exact absurd rfl hne
       ·exact ⟨_, hβ⟩
      obtain ⟨rfl, hb1, a, c, rfl, hnc, hbk⟩ := hv _ _ _ hβ0
      obtain ⟨b, cnt, w', hβ, hst, h1, h2⟩ := row_put (P := P) h0 hO hOo hne hN (m := lo) (by rw [List.length_replicate]; exact hm)
      rw [hβ0] at hβ
      cases hβ
      obtain ⟨b', cnt', hg, rfl, hfit⟩ := hbk (by omega)
      cases hg
      rw [List.length_replicate] at h1 h2
      obtain ⟨n', rfl⟩ : ∃ n', n = n' + 1 := ⟨n - 1, by omega⟩
      have hrun : (Builtin.clear_ #[T] ty #[.slice (some ⟨b, lo * i.size, none⟩) (n' + 1) c]).run P w = .ok (.tuple #[]) w' := by
       simp [Builtin.clear_, run_underlying hT, zeroValue, typeInfo, hi, hz0, hst]
      exact ⟨_, _, β, hrun, ⟨.dead _, h1, h2⟩⟩
    ·cases ha
   ·cases ha
  ·cases ha
 ·cases ha
end
end Sx
end Go.Proofs.YtalpfhpeaaocmaaGreat
end
section
namespace Go.Proofs.YtalpfhpeaaocmaaGreat
namespace Sx
open Go.RowKit
section
variable {P : Program} {O : Nat → Ob} {β : Nat → HE} {X : Nat → Prop} {w : World} {look : Nat → Ob}
theorem repl_ok {z : List AV} {zv : Array Value} (h : CR O β X w z zv) (hz : 0 < zv.size) (n : Nat) : CR O β X w (repl n z) ((Array.range (n * zv.size)).map (zv[· % zv.size]!)) := by
 have hlen : ∀ n, (repl n z).length = n * z.length := fun n => by
  induction n with
  | zero => simp [repl]
  | succ n ih => simp [repl, ih, Nat.succ_mul]; omega
 have hget : ∀ n j, j < n * z.length → (repl n z)[j]? = z[j % z.length]? := fun n => by
  induction n with
  | zero => intro j hj; simp at hj
  | succ n ih =>
   intro j hj
   rw [Nat.succ_mul] at hj
   unfold repl
   by_cases h1 : j < z.length
   ·rw [List.getElem?_append_left h1, Nat.mod_eq_of_lt h1]
   ·rw [List.getElem?_append_right (by omega), ih (j - z.length) (by omega), ← Nat.mod_eq_sub_mod (by omega)]
 have hs := h.size
 refine ⟨by simp [hlen, hs], fun j x hj => ?_⟩
 have hjn : j < n * z.length := by
  rw [← hlen]; exact (List.getElem?_eq_some_iff.1 hj).1
 rw [hget n j hjn] at hj
 have hm : j % zv.size < zv.size := Nat.mod_lt _ hz
 have := h.at_ _ _ hj
 rw [hs] at hm ⊢
 have e : ((Array.range (n * z.length)).map (zv[· % z.length]!)).getD j undef = zv.getD (j % z.length) undef := by
  rw [Array.getD_eq_getD_getElem?, Array.getElem?_map, Array.getElem?_range]
  simp only [hjn, if_true, Option.map_some, Option.getD_some]
  rw [getElem!_pos zv (j % z.length) (by omega), Array.getD_eq_getD_getElem?, Array.getElem?_eq_getElem (by omega), Option.getD_some]
 rw [e]
 exact this
theorem chunk_len (sz n : Nat) (l : List D) : (chunk sz n l).length = n := by
 induction n generalizing l with
 | zero => rfl
 | succ n ih => simp [chunk, ih]
theorem chunk_get {sz : Nat} : ∀ {n i : Nat} {l : List D} {e : D}, (chunk sz n l)[i]? = some e → e = .agg ((l.drop (i * sz)).take sz) ∧ i < n
 | 0, i, l, e, h => by simp [chunk] at h
 | n + 1, 0, l, e, h => by simp [chunk] at h; exact ⟨by simpa using h.symm, by omega⟩
 | n + 1, i + 1, l, e, h => by
  simp only [chunk, List.getElem?_cons_succ] at h
  obtain ⟨h1, h2⟩ := chunk_get h
  refine ⟨?_, by omega⟩
  rw [h1, List.drop_drop, Nat.succ_mul, Nat.add_comm]
theorem actMake_ok {dst : Nat} {T : TypeId} {l c : AV} {e : Eff} {vl vc : Value} (hO : Objs O β X w) (hlk : Looks O look) (hx : AR O β X w l vl) (hy : AR O β X w c vc)
  (ha : actMake P dst T l c look = some e) (hob : ∀ p ∈ e.obs, p) : ∃ v w' β', (Instr.makeSlice T vl vc).run P w = .ok v w' ∧ Done O β X w e v β' w' := by
 unfold actMake at ha
 split at ha
 ·next elem kl n kc m hlook hu =>
  split at ha
  ·next zc s d hzc hsz hzd =>
   split at ha
   ·next hlen =>
    cases ha
    have h1 : n = m := hob _ (by simp)
    have h2 : 0 ≤ n ∧ n ≤ 9223372036854775807 := hob _ (by simp)
    have h3 : (bytesT P elem : Int) * n ≤ 281474976710656 := hob _ (by simp)
    subst h1
    obtain rfl := hx.d_inv.int_inv
    obtain rfl := hy.d_inv.int_inv
    obtain ⟨i, hi, his⟩ := szT_info hsz
    obtain ⟨z0, hz0, hzs⟩ := zero_info hi hzc (by rw [hlen, his])
    have hby : bytesT P elem = i.bytes := by unfold bytesT; rw [hi]
    rw [hby] at h3
    have hrun := run_make w T elem i z0 hu hi hz0 kl kc n n h2.1 (Int.le_refl _) h3 h2.2
    obtain ⟨⟨k1, k2⟩, k3⟩ := zeroD_ok (w := w) (β := β) (X := X) (O := O) hO hzd hi hz0 hzs
    have hms : madeCells z0.cells (n.toNat * i.size) = Builtin.zeroCells z0.cells n.toNat := by
     unfold madeCells Builtin.zeroCells
     rw [hzs]
    rw [hms] at hrun
    have hrow := new_row (sz := s + 1) (es := List.replicate n.toNat d) hO (hlk.none hlook) (vs := Builtin.zeroCells z0.cells n.toNat) elem 0 0 (.inl rfl)
     (fun e he => by rw [List.eq_of_mem_replicate he]; exact ⟨by rw [k1, his], k2⟩)
     (by rw [List.length_replicate, zeroCells_size, hzs, his]; exact Nat.le_refl _)
     (fun a j e x ha hj => by
      have hlt := (List.getElem?_eq_some_iff.1 ha).1
      rw [List.length_replicate] at hlt
      have he := list_repl_get ha
      subst he
      have hj2 : j < z0.cells.size := by have := (List.getElem?_eq_some_iff.1 hj).1; omega
      have := zeroCells_get z0.cells n.toNat a j hlt hj2
      rw [hzs, his] at this
      rw [this]
      exact k3 j x hj) (w.alloc (.cells (Builtin.zeroCells z0.cells n.toNat) elem)) ((Evo.refl _ _).alloc _) (heap_alloc_new w _)
    refine ⟨_, _, _, hrun, Done.of_one hrow (.own _ _ _ (by simp [upd_same]) rfl fun sz2 len g hb => ?_)⟩
    rw [upd_same] at hb
    cases hb
    refine ⟨rfl, ?_⟩
    rw [List.length_replicate]
    exact ownV_grown w (Nat.le_refl _) (by rw [zeroCells_size, hzs, his]; exact Nat.le_refl _)
   ·cases ha
  ·cases ha
 ·cases ha
theorem actBuildSlice_ok {dst : Nat} {T : TypeId} {n : Nat} {parts : List (Nat × AV)} {vparts : Array (Nat × Value)} {e : Eff} (hO : Objs O β X w) (hl : Looks O look)
  (hp : Fa (fun (p : Nat × AV) (q : Nat × Value) => p.1 = q.1 ∧ AR O β X w p.2 q.2) parts vparts.toList) (ha : actBuildSlice P dst T n parts look = some e) :
  ∃ v w' β', (Instr.buildSlice T n vparts).run P w = .ok v w' ∧ Done O β X w e v β' w' := by
 unfold actBuildSlice at ha
 split at ha
 ·next elem hlk hu =>
  split at ha
  ·next sz z ag hsz hz hag =>
   split at ha
   ·next hcond =>
    obtain ⟨hzl, h0, hlim, hagsz⟩ := hcond
    split at ha
    ·next cs hfill =>
     obtain ⟨zv, hzv, hcz⟩ := zeroC_ok (P := P) (O := O) (β := β) (X := X) (w := w) hz
     have hzs : zv.cells.size = sz := by rw [hcz.size, hzl]
     have hcr := repl_ok hcz (by omega) n
     obtain ⟨vs', h1, h2⟩ := fill_ok hfill hcr hp
     rw [hzs] at h1
     have hrun : (Instr.buildSlice T n vparts).run P w = .ok (.slice (some ⟨w.heap.size, 0, none⟩) n n) (w.alloc (.cells vs' elem)) := by
      by_cases hn : n * sz = 0
      ·have hn0 : n = 0 := by
        rcases Nat.mul_eq_zero.1 hn with h | h
        ·exact h
        ·omega
       subst hn0
       simp only [Nat.zero_mul] at h1
       have he : ∀ f : Nat → Value, (Array.range 0).map f = #[] := fun f => by simp
       rw [he] at h1
       simp only [Instr.buildSlice, Sem.run_bind, run_underlying hu, Result.andThen_ok, szT_run hsz, Nat.zero_mul, show ¬ (0 > 2 ^ 24) by omega, if_false, if_true, Sem.run_pure, he, h1]
       rfl
      ·simp only [Instr.buildSlice, Sem.run_bind, run_underlying hu, Result.andThen_ok, szT_run hsz, show ¬ (n * sz > 2 ^ 24) by omega, if_false, hn, Sem.run_pure, hzv, hzs, h1]
       rfl
     have hsz' : vs'.size = n * sz := by
      have h3 := h2.size
      have hfl : ∀ (p : List (Nat × AV)) (c c' : List AV), fillAV (fun i => some (i * sz, sz)) c p = some c' → c'.length = c.length := by
       intro p
       induction p with
       | nil => intro c c' h; cases h; rfl
       | cons q r ih =>
        intro c c' h
        obtain ⟨i, x⟩ := q
        unfold fillAV at h
        split at h
        ·split at h
         ·next hh => rw [ih _ _ h, setAt_length (by omega)]
         ·cases h
        ·cases h
      rw [h3, hfl _ _ _ hfill, ← hcr.size]
      simp [hzs]
     have hgo : ∀ es : List D, es.length = n → (∀ e ∈ es, e.cells.length = sz ∧ ∀ d ∈ e.cells, d.one = true) → (∀ i j e d, es[i]? = some e → e.cells[j]? = some d → cs[i * sz + j]? = some (AV.d d)) →
       ∃ v w' β', (Instr.buildSlice T n vparts).run P w = .ok v w' ∧ Done O β X w ⟨.own (newName dst 0) sz, [(newName dst 0, .row sz es)], []⟩ v β' w' := by
      intro es hes hok hat
      have hrow := new_row (sz := sz) (es := es) hO (hl.none hlk) elem 0 0 (.inl rfl) hok (by rw [hes, hsz']; exact Nat.le_refl _)
       (fun i j e d hi hj => (h2.at_ _ _ (hat i j e d hi hj)).d_inv) (w.alloc (.cells vs' elem)) ((Evo.refl _ _).alloc _) (heap_alloc_new w _)
      refine ⟨_, _, _, hrun, Done.of_one hrow (.own _ _ _ (by simp [upd_same]) rfl fun sz2 len g hb => ?_)⟩
      rw [upd_same] at hb
      cases hb
      refine ⟨rfl, ?_⟩
      rw [hes]
      exact ownV_grown w (Nat.le_refl _) (by rw [hsz']; exact Nat.le_refl _)
     cases ag with
     | true =>
      simp only [if_true] at ha
      split at ha
      ·next es hes =>
       simp only [true_or, if_true] at ha
       cases ha
       unfold elemsOf at hes
       split at hes
       ·next ds hds =>
        split at hes
        ·next hall =>
         cases hes
         have hcs := allD_spec hds
         subst hcs
         refine hgo _ (chunk_len _ _ _) (fun e he => ?_) (fun i j e d hi hj => ?_)
         ·obtain ⟨i, hi, rfl⟩ := List.getElem_of_mem he
          obtain ⟨h4, h5⟩ := chunk_get (List.getElem?_eq_getElem hi)
          rw [h4]
          refine ⟨?_, fun d hd => List.all_eq_true.1 hall.1 d (List.mem_of_mem_drop (List.mem_of_mem_take hd))⟩
          simp only [D.cells, List.length_take, List.length_drop, hall.2]
          have : (i + 1) * sz ≤ n * sz := Nat.mul_le_mul_right _ h5
          rw [Nat.succ_mul] at this
          omega
         ·obtain ⟨h4, h5⟩ := chunk_get hi
          rw [h4] at hj
          simp only [D.cells] at hj
          have hjs : j < sz := by
           have := (List.getElem?_eq_some_iff.1 hj).1
           simp at this
           omega
          rw [List.getElem?_take_of_lt hjs, List.getElem?_drop] at hj
          rw [List.getElem?_map, hj]
          rfl
        ·cases hes
       ·cases hes
      ·cases ha
     | false =>
      simp only [Bool.false_eq_true, if_false, false_or] at ha hagsz
      split at ha
      ·next es hes =>
       split at ha
       ·next hall =>
        cases ha
        have hcs := allD_spec hes
        subst hcs
        subst hagsz
        have hone : ∀ e ∈ es, e.one = true := fun e he => List.all_eq_true.1 hall e he
        refine hgo es ?_ (fun e he => ?_) (fun i j e d hi hj => ?_)
        ·have := h2.size
         rw [hsz'] at this
         simp at this
         exact this.symm
        ·rw [one_dcells (hone e he)]
         exact ⟨rfl, fun d hd => by rw [List.mem_singleton.1 hd]; exact hone e he⟩
        ·have he := List.mem_of_getElem? hi
         rw [one_dcells (hone e he)] at hj
         have hj0 : j = 0 := by
          cases j with
          | zero => rfl
          | succ j => simp at hj
         subst hj0
         cases hj
         simp [hi]
       ·cases ha
      ·cases ha
    ·cases ha
   ·cases ha
  ·cases ha
 ·cases ha
theorem actConvertBytes_ok {dst : Nat} {S T el : TypeId} {x : AV} {h : OH} {e : Eff} {vx : Value} (hO : Objs O β X w) (hl : Looks O look) (hx : AR O β X w x vx) (hs : P.underlying S = some .string) (ht : P.underlying T = some (.slice el))
  (ha : actConvert P dst S T x h look = some e) : ∃ v w' β', (convert S T vx).run P w = .ok v w' ∧ Done O β X w e v β' w' := by
 unfold actConvert at ha
 rw [hs, ht] at ha
 simp only at ha
 split at ha
 ·next s hu hlk =>
  cases ha
  obtain rfl := hx.d_inv.str_inv
  have hrun := run_bytes_of_string (P := P) w S T el ⟨s.toArray⟩ hs ht hu
  have hge := grownCap_ge w (⟨s.toArray⟩ : ByteArray).size 0 el
  have hsz : (⟨s.toArray⟩ : ByteArray).size = s.length := by simp [ByteArray.size]
  rw [hsz] at hge hrun
  have hbsz : (bytesRow ⟨s.toArray⟩ (grownCap w s.length 0 el)).size = grownCap w s.length 0 el := by
   simp [bytesRow, ByteArray.size]
   omega
  have hget : ∀ i c, s[i]? = some c → (bytesRow ⟨s.toArray⟩ (grownCap w s.length 0 el)).getD i undef = .int .u8 c.toNat := by
   intro i c hi
   have hlt := (List.getElem?_eq_some_iff.1 hi).1
   obtain ⟨h1, h2⟩ := List.getElem?_eq_some_iff.1 hi
   simp only [bytesRow, Array.getD_eq_getD_getElem?]
   rw [Array.getElem?_append_left (by simpa using hlt)]
   simp [h1, h2]
  have hrow := new_row (sz := 1) (es := s.map byteD) hO (hl.none hlk) el _ _ (.inr (Nat.le_refl _))
   (fun e he => by
    obtain ⟨c, -, rfl⟩ := List.mem_map.1 he
    exact ⟨rfl, fun d hd => by rw [byteD_cells] at hd; rw [List.mem_singleton.1 hd]; rfl⟩)
   (by rw [hbsz]; simpa using hge)
   (fun i j e d h1 h2 => by
    rw [List.getElem?_map] at h1
    cases hc : s[i]? with
    | none => rw [hc] at h1; cases h1
    | some c =>
     rw [hc] at h1
     cases h1
     rw [byteD_cells] at h2
     have hj0 : j = 0 := by
      cases j with
      | zero => rfl
      | succ j => simp at h2
     subst hj0
     cases h2
     simp only [Nat.mul_one, Nat.add_zero]
     rw [hget i c hc]
     exact .int _ _)
   _ (((Evo.refl _ w).drew).alloc (.cells (bytesRow ⟨s.toArray⟩ (grownCap w s.length 0 el)) el ((bytesRow ⟨s.toArray⟩ (grownCap w s.length 0 el)).size, (bytesRow ⟨s.toArray⟩ (grownCap w s.length 0 el)).size + 1))) (heap_alloc_new w.drew _)
  refine ⟨_, _, _, hrun, Done.of_one hrow (.own _ _ _ (by simp [upd_same]) rfl fun sz2 len g hb => ?_)⟩
  rw [upd_same] at hb
  cases hb
  refine ⟨rfl, ?_⟩
  simp only [List.length_map]
  exact ownV_grown w hge (by rw [hbsz]; simp)
 ·cases ha
/-- A row of bytes goes on as it is: one place behind its last cell is marked. -/
theorem actConvertMark_ok {dst : Nat} {S T el el' : TypeId} {x : AV} {h : OH} {e : Eff} {vx : Value} (hO : Objs O β X w) (hl : Looks O look) (hx : AR O β X w x vx) (hs : P.underlying S = some (.slice el)) (ht : P.underlying T = some (.slice el'))
  (ha : actConvert P dst S T x h look = some e) (hob : ∀ p ∈ e.obs, p) : ∃ v w' β', (convert S T vx).run P w = .ok v w' ∧ Done O β X w e v β' w' := by
 unfold actConvert at ha
 rw [hs, ht] at ha
 simp only at ha
 split at ha
 ·next o sz hu =>
  split at ha
  ·next szr es hlk =>
   split at ha
   ·next hST =>
    cases ha
    subst hST
    rw [hs] at ht
    cases ht
    have hne : es ≠ [] := hob _ (by simp)
    have hOn := hl.row hlk
    rcases hO.row hOn with ⟨hes, -⟩ | ⟨b, cur, t, lo, hi, hβ, hb, hf, hsz2, hlen, hr⟩
    ·exact absurd hes hne
    ·cases hx with
     | own o sz v hC hone hv =>
      obtain ⟨hsz, a, c, rfl, hnc, hbk⟩ := hv _ _ _ hβ
      obtain ⟨b', cnt, hg, had, hle⟩ := hbk (by have := List.length_pos_iff.2 hne; omega)
      cases hg
      have had2 : a = some ⟨b, 0, none⟩ := by rw [had]; simp
      subst had2
      have hsh : w.shape? b = some (t, cur.size) := by unfold World.shape?; rw [hb]
      have hrun : (convert S S (.slice (some ⟨b, 0, none⟩) es.length c)).run P w = .ok (.slice (some ⟨b, 0, none⟩) es.length c) (w.freeze ⟨b, cur.size, none⟩ 1) := by
       simp [convert, run_underlying hs, run_underlying hu, markStringish, hsh]
      have hblk := (Array.getElem?_eq_some_iff.1 hb).1
      have hheap : ∀ k, (w.freeze ⟨b, cur.size, none⟩ 1).heap[k]? = if k = b then some (.cells cur t (if lo == hi then (cur.size, cur.size + 1) else (min lo cur.size, max hi (cur.size + 1)))) else w.heap[k]? := by
       intro k
       unfold World.freeze
       rw [if_neg (by decide)]
       simp only [Array.getElem?_modify]
       by_cases hk : k = b
       ·subst hk; simp [hb]
       ·rw [if_neg (Ne.symm hk), if_neg hk]
      have hevo : Evo (fun x => x = b) w (w.freeze ⟨b, cur.size, none⟩ 1) := by
       refine ⟨?_, ?_, ?_, ?_, fun k _ hk => ?_⟩
       ·unfold World.freeze; rw [if_neg (by decide)]
       ·unfold World.freeze; rw [if_neg (by decide)]
       ·unfold World.freeze; rw [if_neg (by decide)]
       ·unfold World.freeze; rw [if_neg (by decide)]; simp
       ·rw [hheap k, if_neg hk]
      obtain ⟨lo', hi', hfz, hb2⟩ : ∃ lo' hi', Fz lo' hi' cur.size ∧ (w.freeze ⟨b, cur.size, none⟩ 1).heap[b]? = some (.cells cur t (lo', hi')) := by
       rw [hheap b, if_pos rfl]
       by_cases hlh : lo = hi
       ·exact ⟨cur.size, cur.size + 1, .inr (Nat.le_refl _), by simp [hlh]⟩
       ·refine ⟨min lo cur.size, max hi (cur.size + 1), .inr (Nat.le_min.2 ⟨hf.resolve_left hlh, Nat.le_refl _⟩), by simp [hlh]⟩
      have hw := hO.write (ob := .row szr es) (by rw [hOn]; simp) (by rw [hβ]; rfl) hevo (by simp) fun hst => by
       rw [hβ]
       exact .row szr es b cur t lo' hi' hb2 hfz hsz2 hlen fun i j e d h1 h2 => hst.repd (hr i j e d h1 h2)
      exact ⟨_, _, _, hrun, Done.of_one hw (hw.2.rav (.own o sz _ hC hone hv))⟩
   ·cases ha
  ·cases ha
 ·cases ha
end
end Sx
end Go.Proofs.YtalpfhpeaaocmaaGreat
end
section
namespace Go.Proofs.YtalpfhpeaaocmaaGreat
namespace Sx
open Go.RowKit
def Oof (l : List Ob) (n : Nat) : Ob := match l[n]? with | some x => x | none => .none
/-- A function with a text of its own. -/
def CallOK (P : Program) (f : FuncId) : Prop := ∃ fn, P.funcs[f]? = some fn ∧ fn.body.isSome = true ∧ (fn.name == "runtime.NumGoroutine") = false
/-- THE CONTRACT: called with values that stand for `args` (over the objects `ins`) the function answers a value that stands for `rv`, over the objects `outs`; nothing else that was there has turned. -/
def FnOK (P : Program) : FnRel := fun f args ins rv outs => CallOK P f ∧
 ∀ (w : World) (X : Nat → Prop) (β : Nat → HE) (vs : Array Value), Objs (Oof ins) β X w → CR (Oof ins) β X w args vs →
  Calls P f vs w fun e w' => ∃ v β', e = .returned v ∧ AR (Oof outs) β' X w' rv v ∧ Objs (Oof outs) β' X w' ∧ Step (Oof ins) (Oof outs) β β' w w'
section
variable {P : Program} {O : Nat → Ob} {β : Nat → HE} {X : Nat → Prop} {w : World} {look : Nat → Ob}
theorem renL_get {ρ : Nat → Nat} {cs : List AV} {j : Nat} : (AV.renL ρ cs)[j]? = (cs[j]?).map (AV.ren ρ) := by
 induction cs generalizing j with
 | nil => rfl
 | cons c r ih =>
  cases j with
  | zero => rfl
  | succ j => simp only [AV.renL, List.getElem?_cons_succ]; exact ih
theorem renL_len {ρ : Nat → Nat} {cs : List AV} : (AV.renL ρ cs).length = cs.length := by
 induction cs with
 | nil => rfl
 | cons c r ih => simp [AV.renL, ih]
theorem namesL_mem {cs : List AV} {j : Nat} {x : AV} (h : cs[j]? = some x) {n : Nat} (hn : n ∈ x.names) : n ∈ AV.namesL cs := by
 induction cs generalizing j with
 | nil => simp at h
 | cons c r ih =>
  cases j with
  | zero => cases h; simp [AV.namesL, hn]
  | succ j => simp only [AV.namesL, List.mem_append]; exact .inr (ih h)
theorem RAV.ren {M M' : Nat → Prop} {β' : Nat → HE} {C C' : Nat → Prop} {x : AV} {v : Value} {ρ : Nat → Nat} (h : RAV w M β C x v) (hM : ∀ b, M' b → M b)
  (hn : ∀ n ∈ x.names, C n → C' (ρ n) ∧ (β' (ρ n) = β n ∨ β' (ρ n) = .gone)) : RAV w M' β' C' (x.ren ρ) v := by
 induction h with
 | d d v h => exact .d d v (h.mono (T := fun _ => False) (Evo.refl _ _) (fun _ h => h.elim) (fun b hb => .inl (hM b hb)))
 | raw v => exact .raw v
 | ptr o off v ho hone h =>
  obtain ⟨h1, h2⟩ := hn o (by simp [AV.names]) ho
  refine .ptr _ off v h1 hone fun b hb => ?_
  rcases h2 with h2 | h2
  ·exact h b (h2 ▸ hb)
  ·rw [h2] at hb; cases hb
 | rptr o sz i off v ho hone h =>
  obtain ⟨h1, h2⟩ := hn o (by simp [AV.names]) ho
  refine .rptr _ sz i off v h1 hone fun sz' len b n hb => ?_
  rcases h2 with h2 | h2
  ·exact h sz' len b n (h2 ▸ hb)
  ·rw [h2] at hb; cases hb
 | eptr e off p f hb hnM ho hc hr =>
  exact .eptr e off p f hb (fun hm => hnM (hM _ hm)) ho hc fun j d hj => (hr j d hj).mono (T := fun _ => False) (Evo.refl _ _) (fun _ h => h.elim) (fun b hb => .inl (hM b hb))
 | own o sz v ho hone h =>
  obtain ⟨h1, h2⟩ := hn o (by simp [AV.names]) ho
  refine .own _ sz v h1 hone fun sz' len g hb => ?_
  rcases h2 with h2 | h2
  ·exact h sz' len g (h2 ▸ hb)
  ·rw [h2] at hb; cases hb
 | sub o sz lo n v ho hone h =>
  obtain ⟨h1, h2⟩ := hn o (by simp [AV.names]) ho
  refine .sub _ sz lo n v h1 hone fun sz' len g hb => ?_
  rcases h2 with h2 | h2
  ·exact h sz' len g (h2 ▸ hb)
  ·rw [h2] at hb; cases hb
 | agg cs vs hl _ ih =>
  refine .agg _ vs (by rw [renL_len]; exact hl) fun j x hj => ?_
  rw [renL_get] at hj
  cases hx : cs[j]? with
  | none => rw [hx] at hj; cases hj
  | some y => rw [hx] at hj; cases hj; exact ih j y hx fun n h1 h2 => hn n (by simp only [AV.names]; exact namesL_mem hx h1) h2
 | tup cs vs hl _ ih =>
  refine .tup _ vs (by rw [renL_len]; exact hl) fun j x hj => ?_
  rw [renL_get] at hj
  cases hx : cs[j]? with
  | none => rw [hx] at hj; cases hj
  | some y => rw [hx] at hj; cases hj; exact ih j y hx fun n h1 h2 => hn n (by simp only [AV.names]; exact namesL_mem hx h1) h2
 | fn f cs vs hl _ ih =>
  refine .fn f _ vs (by rw [renL_len]; exact hl) fun j x hj => ?_
  rw [renL_get] at hj
  cases hx : cs[j]? with
  | none => rw [hx] at hj; cases hj
  | some y => rw [hx] at hj; cases hj; exact ih j y hx fun n h1 h2 => hn n (by simp only [AV.names]; exact namesL_mem hx h1) h2
 | meth f cs vs hl _ ih =>
  refine .meth f _ vs (by rw [renL_len]; exact hl) fun j x hj => ?_
  rw [renL_get] at hj
  cases hx : cs[j]? with
  | none => rw [hx] at hj; cases hj
  | some y => rw [hx] at hj; cases hj; exact ih j y hx fun n h1 h2 => hn n (by simp only [AV.names]; exact namesL_mem hx h1) h2
 | dead v => exact .dead v
theorem ObjRel.ren {M M' : Nat → Prop} {β' : Nat → HE} {C C' : Nat → Prop} {x : Ob} {g : HE} {ρ : Nat → Nat} (h : ObjRel w M β C x g) (hM : ∀ b, M' b → M b)
  (hn : ∀ n ∈ x.names, C n → C' (ρ n) ∧ (β' (ρ n) = β n ∨ β' (ρ n) = .gone)) : ObjRel w M' β' C' (x.ren ρ) g := by
 cases h with
 | none => exact .none
 | gone => exact .gone
 | box cs b cur t lo hi hb hf hl h =>
  refine .box _ b cur t lo hi hb hf (by rw [renL_len]; exact hl) fun j x hj => ?_
  rw [renL_get] at hj
  cases hx : cs[j]? with
  | none => rw [hx] at hj; cases hj
  | some y => rw [hx] at hj; cases hj; exact (h j y hx).ren hM fun n h1 h2 => hn n (by simp only [Ob.names]; exact namesL_mem hx h1) h2
 | rowN sz => exact .rowN sz
 | row sz es b cur t lo hi hb hf hsz hl hr =>
  exact .row sz es b cur t lo hi hb hf hsz hl fun i j e d h1 h2 => (hr i j e d h1 h2).mono (T := fun _ => False) (Evo.refl _ _) (fun _ h => h.elim) (fun b hb => .inl (hM b hb))
theorem Ob.ren_none {x : Ob} {ρ : Nat → Nat} : x.ren ρ = .none ↔ x = .none := by cases x <;> simp [Ob.ren]
theorem viewL_get {kn : Bool} {who : List Nat} {cs l : List AV} {b : Bool} (h : AV.viewL look kn who cs = some (l, b)) :
  l.length = cs.length ∧ ∀ (j : Nat) (x : AV), cs[j]? = some x → ∃ (x' : AV) (b' : Bool), l[j]? = some x' ∧ AV.view look kn who x = some (x', b') ∧ (b = false → b' = false) := by
 induction cs generalizing l b with
 | nil => simp only [AV.viewL] at h; cases h; exact ⟨rfl, fun j x hj => by simp at hj⟩
 | cons c r ih =>
  simp only [AV.viewL] at h
  split at h
  ·next x b1 m b2 h1 h2 =>
   cases h
   obtain ⟨h3, h4⟩ := ih h2
   refine ⟨by simp [h3], fun j y hj => ?_⟩
   cases j with
   | zero => cases hj; exact ⟨x, b1, rfl, h1, fun hb => by simp at hb; exact hb.1⟩
   | succ j =>
    obtain ⟨x', b', h5, h6, h7⟩ := h4 j y hj
    exact ⟨x', b', h5, h6, fun hb => h7 (by simp at hb; exact hb.2)⟩
  ·cases h
theorem row_data {sz : Nat} {es : List D} {a : Option Addr} {c : Nat} {M' : Nat → Prop} (hE : Elems O β X w sz es a) (hn : es.length ≤ c) (hM : ∀ b, M' b → Mset X β b) (hnot : ∀ ad, a = some ad → es ≠ [] → ¬ M' ad.block) :
  RepD w M' (.sl es) (.slice a es.length c) := by
 by_cases hes : es = []
 ·subst hes; exact .nil _ _
 ·obtain ⟨ad, f, rfl, hb, hc, hr⟩ := hE.at_ hes
  exact .sl es ad c sz f hn hb (hnot ad rfl hes) hE.ok hc fun i j e d h1 h2 => (hr i j e d h1 h2).mono (T := fun _ => False) (Evo.refl _ _) (fun _ h => h.elim) (fun b hb => .inl (hM b hb))
theorem view_ok {kn : Bool} {who : List Nat} {M' : Nat → Prop} {x x' : AV} {lent : Bool} {v : Value} (hO : Objs O β X w) (hl : Looks O look) (hM : ∀ b, M' b → Mset X β b) (hx : AR O β X w x v) (h : AV.view look kn who x = some (x', lent))
  (hlent : lent = true → ∀ b, Tset β b → ¬ M' b) : RAV w M' β (fun o => O o ≠ .none) x' v := by
 have hmono : ∀ {x v}, AR O β X w x v → RAV w M' β (fun o => O o ≠ .none) x v := fun h => h.mono (T := fun _ => False) (Evo.refl _ _) (fun _ h => h.elim) (fun b hb => .inl (hM b hb)) (fun o ho => ⟨ho, .inl rfl⟩)
 have hrow : ∀ {y : AV} {es : List D} {u : Value}, AR O β X w y u → rowOf y look = some es → lent = true → RAV w M' β (fun o => O o ≠ .none) (.d (.sl es)) u := fun hy hr hlt => by
  obtain ⟨a, c, sz2, rfl, hE, hnc, hbk⟩ := rowOf_ok hO hl hy hr
  refine .d _ _ (row_data hE hnc hM fun ad had hne hm => ?_)
  rcases hbk ad had hne with h1 | h1
  ·exact h1 (hM _ hm)
  ·exact hlent hlt _ h1 hm
 clear hlent
 revert h
 have hmain : ∀ (x : AV) (v : Value), AR O β X w x v → ∀ (x' : AV) (l2 : Bool), AV.view look kn who x = some (x', l2) → (l2 = true → lent = true) → RAV w M' β (fun o => O o ≠ .none) x' v := by
  intro x v hx
  induction hx with
  | d d v hd => intro x' l2 h hl2; simp only [AV.view] at h; cases h; exact hmono (.d d v hd)
  | raw v =>
   intro x' l2 h hl2
   unfold AV.view at h
   split at h
   all_goals first | (rename_i heq; cases heq; done) | skip
   ·next heq => cases heq; cases h; cases kn; exact .d _ _ (.nil _ _); exact hmono (.raw _)
   ·next heq => cases heq; cases h; exact hmono (.raw _)
   ·cases h
  | ptr o off v ho hone hh => intro x' l2 h hl2; simp only [AV.view] at h; split at h <;> cases h; exact hmono (.ptr o off v ho hone hh)
  | rptr o sz i off v ho hone hh => intro x' l2 h hl2; simp only [AV.view] at h; split at h <;> cases h; exact hmono (.rptr o sz i off v ho hone hh)
  | eptr e off p f hb hnM ho hc hr => intro x' l2 h hl2; simp [AV.view] at h
  | own o sz v ho hone hh =>
   intro x' l2 h hl2
   simp only [AV.view] at h
   split at h
   ·cases h; exact hmono (.own o sz v ho hone hh)
   ·split at h
    ·next szr es hlk =>
     cases h
     exact hrow (.own o sz _ ho hone hh) (by simp only [rowOf, hlk]) (hl2 rfl)
    ·cases h
  | sub o sz lo n v ho hone hh =>
   intro x' l2 h hl2
   simp only [AV.view] at h
   split at h
   ·cases h; exact hmono (.sub o sz lo n v ho hone hh)
   ·split at h
    ·next szr es hlk =>
     cases h
     exact hrow (.sub o sz lo n _ ho hone hh) (by simp only [rowOf, hlk]) (hl2 rfl)
    ·cases h
  | agg cs vs hl' hr ih =>
   intro x' l2 h hl2
   simp only [AV.view] at h
   split at h
   ·next l b hv =>
    cases h
    obtain ⟨h1, h2⟩ := viewL_get hv
    refine mkAgg_ok (by rw [h1]; exact hl') fun j y hj => ?_
    have hjl : j < cs.length := by rw [← h1]; exact (List.getElem?_eq_some_iff.1 hj).1
    obtain ⟨y', b', h3, h4, h5⟩ := h2 j _ (List.getElem?_eq_getElem hjl)
    rw [h3] at hj
    cases hj
    exact ih j _ (List.getElem?_eq_getElem hjl) _ _ h4 fun hb' => hl2 (by cases l2 with | true => rfl | false => rw [h5 rfl] at hb'; cases hb')
   ·cases h
  | tup cs vs hl' hr ih => intro x' l2 h hl2; simp [AV.view] at h
  | fn f cs vs hl' hr ih =>
   intro x' l2 h hl2
   simp only [AV.view] at h
   split at h
   ·next l b hv =>
    cases h
    obtain ⟨h1, h2⟩ := viewL_get hv
    refine .fn f _ vs (by rw [h1]; exact hl') fun j y hj => ?_
    have hjl : j < cs.length := by rw [← h1]; exact (List.getElem?_eq_some_iff.1 hj).1
    obtain ⟨y', b', h3, h4, h5⟩ := h2 j _ (List.getElem?_eq_getElem hjl)
    rw [h3] at hj
    cases hj
    exact ih j _ (List.getElem?_eq_getElem hjl) _ _ h4 fun hb' => hl2 (by cases l2 with | true => rfl | false => rw [h5 rfl] at hb'; cases hb')
   ·cases h
  | meth f cs vs hl' hr ih =>
   intro x' l2 h hl2
   simp only [AV.view] at h
   split at h
   ·next l b hv =>
    cases h
    obtain ⟨h1, h2⟩ := viewL_get hv
    refine .meth f _ vs (by rw [h1]; exact hl') fun j y hj => ?_
    have hjl : j < cs.length := by rw [← h1]; exact (List.getElem?_eq_some_iff.1 hj).1
    obtain ⟨y', b', h3, h4, h5⟩ := h2 j _ (List.getElem?_eq_getElem hjl)
    rw [h3] at hj
    cases hj
    exact ih j _ (List.getElem?_eq_getElem hjl) _ _ h4 fun hb' => hl2 (by cases l2 with | true => rfl | false => rw [h5 rfl] at hb'; cases hb')
   ·cases h
  | dead v => intro x' l2 h hl2; simp [AV.view] at h
 exact fun h => hmain x v hx x' lent h id
end
end Sx
end Go.Proofs.YtalpfhpeaaocmaaGreat
end
section
namespace Go.Proofs.YtalpfhpeaaocmaaGreat
namespace Sx
open Go.RowKit
section
variable {P : Program} {O : Nat → Ob} {β : Nat → HE} {X : Nat → Prop} {w : World} {look : Nat → Ob}
theorem zip_other {f : Nat → Nat} {n : Nat} : ∀ (l : List Ob) (k : Nat) (O : Nat → Ob), (∀ i, i < l.length → f (k + i) ≠ n) → updL O (zipFrom f k l) n = O n
 | [], _, _, _ => rfl
 | x :: r, k, O, h => by
  simp only [zipFrom, updL]
  rw [zip_other r (k + 1) _ (fun i hi => by have := h (i + 1) (by simp; omega); rwa [show k + (i + 1) = k + 1 + i by omega] at this)]
  exact upd_other _ _ (Ne.symm (by simpa using h 0 (by simp)))
theorem zip_at {f : Nat → Nat} : ∀ (l : List Ob) (k : Nat) (O : Nat → Ob) (i : Nat), (∀ i j, i < l.length → j < l.length → f (k + i) = f (k + j) → i = j) → ∀ x, l[i]? = some x → updL O (zipFrom f k l) (f (k + i)) = x
 | [], _, _, i, _, x, hx => by simp at hx
 | y :: r, k, O, i, h, x, hx => by
  simp only [zipFrom, updL]
  cases i with
  | zero =>
   cases hx
   rw [zip_other r (k + 1) _ (fun i hi he => by
    have := h (i + 1) 0 (by simp; omega) (by simp) (by rw [show k + (i + 1) = k + 1 + i by omega]; simpa using he)
    omega)]
   exact upd_same _ _ _
  | succ i =>
   have := zip_at r (k + 1) (upd O (f k) y) i (fun a b ha hb he => by
    have := h (a + 1) (b + 1) (by simp; omega) (by simp; omega) (by rw [show k + (a + 1) = k + 1 + a by omega, show k + (b + 1) = k + 1 + b by omega]; exact he)
    omega) x (by simpa using hx)
   rw [show k + (i + 1) = k + 1 + i by omega]
   exact this
theorem newName_inj {d a b : Nat} (h : newName d a = newName d b) : a = b := by unfold newName at h; omega
theorem flatL_get {cs : List AV} (h : AV.flatL cs = true) {j : Nat} {x : AV} (hj : cs[j]? = some x) : x.flat = true := by
 induction cs generalizing j with
 | nil => simp at hj
 | cons c r ih =>
  simp only [AV.flatL, Bool.and_eq_true] at h
  cases j with
  | zero => cases hj; exact h.1
  | succ j => exact ih h.2 hj
theorem dflatL_get {cs : List D} (h : D.flatL cs = true) {j : Nat} {x : D} (hj : cs[j]? = some x) : (∃ k n, x = .int k n) ∨ (∃ b, x = .bool b) ∨ (∃ s, x = .str s) := by
 induction cs generalizing j with
 | nil => simp at hj
 | cons c r ih =>
  cases j with
  | zero =>
   cases hj
   cases x with
   | int k n => exact .inl ⟨k, n, rfl⟩
   | bool b => exact .inr (.inl ⟨b, rfl⟩)
   | str s => exact .inr (.inr ⟨s, rfl⟩)
   | agg _ => simp [D.flatL] at h
   | sl _ => simp [D.flatL] at h
  | succ j =>
   refine ih ?_ hj
   cases c <;> simp [D.flatL] at h <;> exact h
theorem flat_ok {w' : World} {M M' : Nat → Prop} {β' : Nat → HE} {C C' : Nat → Prop} {ρ : Nat → Nat} {x : AV} {v : Value} (hx : RAV w M β C x v) (hf : x.flat = true) : RAV w' M' β' C' (x.ren ρ) v := by
 induction hx with
 | d d v hd =>
  simp only [AV.ren]
  cases hd with
  | int k n => exact .d _ _ (.int k n)
  | bool b => exact .d _ _ (.bool b)
  | str s => exact .d _ _ (.str s)
  | agg cs vs hl ho hr =>
   refine .d _ _ (.agg cs vs hl ho fun j d hj => ?_)
   have h1 := hr j d hj
   rcases dflatL_get (by simpa [AV.flat] using hf) hj with ⟨k, n, rfl⟩ | ⟨b, rfl⟩ | ⟨s, rfl⟩
   ·rw [h1.int_inv]; exact .int k n
   ·rw [h1.bool_inv]; exact .bool b
   ·rw [h1.str_inv]; exact .str s
  | nil a c => simp [AV.flat] at hf
  | sl es a c sz f => simp [AV.flat] at hf
 | raw v => exact .raw v
 | ptr o off v ho hone h => simp [AV.flat] at hf
 | rptr o sz i off v ho hone h => simp [AV.flat] at hf
 | eptr e off p f => simp [AV.flat] at hf
 | own o sz v ho hone h => simp [AV.flat] at hf
 | sub o sz lo n v ho hone h => simp [AV.flat] at hf
 | agg cs vs hl hr ih =>
  simp only [AV.flat] at hf
  refine .agg _ vs (by rw [renL_len]; exact hl) fun j x hj => ?_
  rw [renL_get] at hj
  cases hx : cs[j]? with
  | none => rw [hx] at hj; cases hj
  | some y => rw [hx] at hj; cases hj; exact ih j y hx (flatL_get hf hx)
 | tup cs vs hl hr ih =>
  simp only [AV.flat] at hf
  refine .tup _ vs (by rw [renL_len]; exact hl) fun j x hj => ?_
  rw [renL_get] at hj
  cases hx : cs[j]? with
  | none => rw [hx] at hj; cases hj
  | some y => rw [hx] at hj; cases hj; exact ih j y hx (flatL_get hf hx)
 | fn f cs vs => simp [AV.flat] at hf
 | meth f cs vs => simp [AV.flat] at hf
 | dead v => simp [AV.flat] at hf
theorem Oof_some {l : List Ob} {i : Nat} {x : Ob} (h : l[i]? = some x) : Oof l i = x := by simp [Oof, h]
theorem Oof_none {l : List Ob} {i : Nat} (h : l.length ≤ i) : Oof l i = .none := by simp [Oof, List.getElem?_eq_none h]
theorem actCallK_ok {dst : Nat} {f : FuncId} {args : List AV} {kn : Bool} {who : List Nat} {rv : AV} {outs : List Ob} {e : Eff} {vs : Array Value} (hO : Objs O β X w) (hl : Looks O look) (hargs : CR O β X w args vs)
  (ha : actCallK (FnOK P) dst f args kn who rv outs look = some e) (hob : ∀ p ∈ e.obs, p) : CallOK P f ∧ Calls P f vs w fun en w' => ∃ v β', en = .returned v ∧ Done O β X w e v β' w' := by
 unfold actCallK at ha
 ·split at ha
  ·next l lent hview =>
   split at ha
   ·next hc =>
    obtain ⟨hnd, hlent, hle, -, hnm, hwn, hnew, hlive, hrvn, houts⟩ := hc
    cases ha
    have hF' : FnOK P f (AV.renL (idxIn who) l) (who.map fun n => (look n).ren (idxIn who)) rv outs := hob _ (by simp)
    have hF := hF'.2
    obtain ⟨hvl, hvat⟩ := viewL_get hview
    have hOl : ∀ n ∈ who, look n = O n := fun n hn => by
     have := List.all_eq_true.1 hlive n hn
     rcases hl n with h1 | h1
     ·exact h1
     ·rw [h1] at this; simp at this
    have hOne : ∀ n ∈ who, O n ≠ .none := fun n hn h1 => by
     have := List.all_eq_true.1 hlive n hn
     rw [hOl n hn, h1] at this; simp at this
    have hidx : ∀ n ∈ who, idxIn who n < who.length ∧ who[idxIn who n]? = some n := fun n hn => by
     have h1 : who.idxOf n < who.length := List.idxOf_lt_length_of_mem hn
     exact ⟨h1, by simp [idxIn, h1]⟩
    have hidx2 : ∀ i n, who[i]? = some n → idxIn who n = i := fun i n hi => by
     obtain ⟨h1, h2⟩ := List.getElem?_eq_some_iff.1 hi
     rw [← h2]
     exact List.Nodup.idxOf_getElem hnd i h1
    rcases hlent with hlf | ⟨hflat, rfl, rfl⟩
    ·
     subst hlf
     let βc : Nat → HE := fun i => match who[i]? with | some n => β n | none => .gone
     let Xc : Nat → Prop := fun b => X b ∨ ∃ o, o ∉ who ∧ (β o).blk = some b
     have hβc : ∀ i n, who[i]? = some n → βc i = β n := fun i n hi => by show (match who[i]? with | some n => β n | none => HE.gone) = _; rw [hi]
     have hβc0 : ∀ i, who[i]? = none → βc i = .gone := fun i hi => by show (match who[i]? with | some n => β n | none => HE.gone) = _; rw [hi]
     have hblk : ∀ i b, (βc i).blk = some b → ∃ n, who[i]? = some n ∧ (β n).blk = some b := fun i b hb => by
      cases hi : who[i]? with
      | none => rw [hβc0 i hi] at hb; cases hb
      | some n => rw [hβc i n hi] at hb; exact ⟨n, rfl, hb⟩
     have hMsub : ∀ b, Mset Xc βc b → Mset X β b := by
      rintro b ((hx | ⟨o, -, ho⟩) | ⟨i, hi⟩)
      ·exact .inl hx
      ·exact .inr ⟨o, ho⟩
      ·obtain ⟨n, -, hn⟩ := hblk i b hi; exact .inr ⟨n, hn⟩
     have hOc : ∀ i n, who[i]? = some n → Oof (who.map fun n => (look n).ren (idxIn who)) i = (O n).ren (idxIn who) := fun i n hi => by
      rw [Oof_some (x := (look n).ren (idxIn who)) (by rw [List.getElem?_map, hi]; rfl), hOl n (List.mem_of_getElem? hi)]
     have hCc : ∀ n ∈ who, Oof (who.map fun n => (look n).ren (idxIn who)) (idxIn who n) ≠ .none ∧ (βc (idxIn who n) = β n ∨ βc (idxIn who n) = .gone) := fun n hn => by
      rw [hOc _ n (hidx n hn).2]
      exact ⟨fun h1 => hOne n hn (Ob.ren_none.1 h1), .inl (hβc _ n (hidx n hn).2)⟩
     have hObjs : Objs (Oof (who.map fun n => (look n).ren (idxIn who))) βc Xc w := by
      refine ⟨fun i => ?_, fun i j b h1 h2 => ?_, fun i b h1 h2 => ?_, fun b hb => ?_⟩
      ·cases hi : who[i]? with
       | none =>
        rw [hβc0 i hi, Oof_none (by simpa using List.getElem?_eq_none_iff.1 hi)]
        exact .none
       | some n =>
        rw [hβc i n hi, hOc i n hi]
        refine (hO.rel n).ren hMsub fun k hk _ => hCc k ?_
        have hnw := List.mem_of_getElem? hi
        have := List.all_eq_true.1 hwn n hnw
        rw [hOl n hnw] at this
        have := List.all_eq_true.1 this k hk
        simpa using this
      ·obtain ⟨n, hn, hb1⟩ := hblk i b h1
       obtain ⟨m, hm, hb2⟩ := hblk j b h2
       have := hO.inj n m b hb1 hb2
       subst this
       rw [← hidx2 i n hn, ← hidx2 j n hm]
      ·obtain ⟨n, hn, hb1⟩ := hblk i b h1
       rcases h2 with hx | ⟨o, hno, hob'⟩
       ·exact hO.priv n b hb1 hx
       ·exact hno (hO.inj o n b hob' hb1 ▸ List.mem_of_getElem? hn)
      ·rcases hb with hx | ⟨o, -, ho⟩
       ·exact hO.xlt b hx
       ·exact hO.tlt ⟨o, ho⟩
     have hCR : CR (Oof (who.map fun n => (look n).ren (idxIn who))) βc Xc w (AV.renL (idxIn who) l) vs := by
      refine ⟨by rw [renL_len, hvl]; exact hargs.size, fun j x hj => ?_⟩
      rw [renL_get] at hj
      cases hlj : l[j]? with
      | none => rw [hlj] at hj; cases hj
      | some y =>
       rw [hlj] at hj
       cases hj
       have hjl : j < args.length := by rw [← hvl]; exact (List.getElem?_eq_some_iff.1 hlj).1
       obtain ⟨y', b', h3, h4, h5⟩ := hvat j _ (List.getElem?_eq_getElem hjl)
       rw [hlj] at h3
       cases h3
       have h6 := view_ok (M' := Mset X β) hO hl (fun _ h => h) (hargs.at_ j _ (List.getElem?_eq_getElem hjl)) h4 (fun hb => by rw [h5 rfl] at hb; cases hb)
       refine h6.ren hMsub fun k hk _ => hCc k ?_
       have := List.all_eq_true.1 hnm k (namesL_mem hlj hk)
       simpa using this
     refine ⟨hF'.1, (hF w Xc βc vs hObjs hCR).mono fun en w' => ?_⟩
     rintro ⟨v, βr, rfl, hrv, hObjs', hstep⟩
     
     let nm : Nat → Nat := outName who dst
     have hnmlt : ∀ i n, who[i]? = some n → nm i = n := fun i n hi => by
      have h1 := (List.getElem?_eq_some_iff.1 hi).1
      show (if i < who.length then who.getD i 0 else _) = n
      rw [if_pos h1, List.getD_eq_getElem?_getD, hi]; rfl
     have hnmge : ∀ i, who.length ≤ i → nm i = newName dst (i - who.length) := fun i hi => by
      show (if i < who.length then who.getD i 0 else _) = _
      rw [if_neg (by omega)]
     have hnewO : ∀ i, who.length ≤ i → i < outs.length → O (nm i) = .none := fun i h1 h2 => by
      rw [hnmge i h1]
      have := List.all_eq_true.1 hnew (i - who.length) (List.mem_range.2 (by omega))
      split at this
      ·next hlk => exact hl.none hlk
      ·cases this
     have hinj : ∀ i j, i < outs.length → j < outs.length → nm i = nm j → i = j := by
      intro i j hi hj hij
      rcases Nat.lt_or_ge i who.length with h1 | h1
      ·have e1 := hnmlt i _ (List.getElem?_eq_getElem h1)
       rcases Nat.lt_or_ge j who.length with h2 | h2
       ·have e2 := hnmlt j _ (List.getElem?_eq_getElem h2)
        rw [← hidx2 i _ (List.getElem?_eq_getElem h1), ← hidx2 j _ (List.getElem?_eq_getElem h2), ← e1, ← e2, hij]
       ·exact absurd (hij ▸ hnewO j h2 hj) (e1 ▸ hOne _ (List.getElem_mem h1))
      ·rcases Nat.lt_or_ge j who.length with h2 | h2
       ·have e2 := hnmlt j _ (List.getElem?_eq_getElem h2)
        exact absurd (hij ▸ hnewO i h1 hi) (e2 ▸ hOne _ (List.getElem_mem h2))
       ·rw [hnmge i h1, hnmge j h2] at hij
        have := newName_inj hij
        omega
     let inv : Nat → Option Nat := fun n => (List.range outs.length).find? (fun i => nm i == n)
     have hinv1 : ∀ n i, inv n = some i → i < outs.length ∧ nm i = n := fun n i hi => by
      have h1 := List.find?_some hi
      have h2 := List.mem_of_find?_eq_some hi
      exact ⟨List.mem_range.1 h2, by simpa using h1⟩
     have hinv2 : ∀ i, i < outs.length → inv (nm i) = some i := fun i hi => by
      cases hq : inv (nm i) with
      | none =>
       have := List.find?_eq_none.1 hq i (List.mem_range.2 hi)
       simp at this
      | some j =>
       obtain ⟨h1, h2⟩ := hinv1 _ _ hq
       rw [hinj j i h1 hi h2]
     have hinv3 : ∀ n ∈ who, inv n = some (idxIn who n) := fun n hn => by
      have h1 := hidx n hn
      have := hinv2 (idxIn who n) (by omega)
      rwa [hnmlt _ n h1.2] at this
     let β2 : Nat → HE := fun n => match inv n with | some i => βr i | none => β n
     have hβ2 : ∀ n i, inv n = some i → β2 n = βr i := fun n i hi => by show (match inv n with | some i => βr i | none => β n) = _; rw [hi]
     have hβ20 : ∀ n, inv n = none → β2 n = β n := fun n hi => by show (match inv n with | some i => βr i | none => β n) = _; rw [hi]
     have hzlen : (outs.map (Ob.ren nm)).length = outs.length := by simp
     have hO2 : ∀ n i, inv n = some i → updL O (zipFrom nm 0 (outs.map (Ob.ren nm))) n = (Oof outs i).ren nm := fun n i hi => by
      obtain ⟨h1, h2⟩ := hinv1 _ _ hi
      have := zip_at (f := nm) (outs.map (Ob.ren nm)) 0 O i (fun a b ha hb => by rw [hzlen] at ha hb; simpa using hinj a b ha hb) ((outs[i]).ren nm) (by simp [h1])
      rw [Nat.zero_add, h2] at this
      rw [this, Oof_some (List.getElem?_eq_getElem h1)]
     have hO20 : ∀ n, inv n = none → updL O (zipFrom nm 0 (outs.map (Ob.ren nm))) n = O n := fun n hi => zip_other _ _ _ fun i hi2 he => by
      rw [hzlen] at hi2
      rw [Nat.zero_add] at he
      rw [← he, hinv2 i hi2] at hi
      cases hi
     have hnw : ∀ n, inv n = none → n ∉ who := fun n hi hn => by rw [hinv3 n hn] at hi; cases hi
     have hMr : ∀ b, Mset X β2 b → Mset Xc βr b := by
      rintro b (hx | ⟨n, hn⟩)
      ·exact .inl (.inl hx)
      ·cases hi : inv n with
       | some i => rw [hβ2 n i hi] at hn; exact .inr ⟨i, hn⟩
       | none => rw [hβ20 n hi] at hn; exact .inl (.inr ⟨n, hnw n hi, hn⟩)
     have hren : ∀ k, k < outs.length → Oof outs k ≠ .none → updL O (zipFrom nm 0 (outs.map (Ob.ren nm))) (nm k) ≠ .none ∧ (β2 (nm k) = βr k ∨ β2 (nm k) = .gone) := fun k hk hne => by
      rw [hO2 _ k (hinv2 k hk)]
      exact ⟨fun h1 => hne (Ob.ren_none.1 h1), .inl (hβ2 _ k (hinv2 k hk))⟩
     have hTc : ∀ b, Tset βc b → Tset β b := fun b ⟨i, hi⟩ => by obtain ⟨n, -, hn⟩ := hblk i b hi; exact ⟨n, hn⟩
     have hkeep : ∀ n, O n ≠ .none → updL O (zipFrom nm 0 (outs.map (Ob.ren nm))) n ≠ .none ∧ (β2 n = β n ∨ β2 n = .gone) := fun n hn => by
      cases hi : inv n with
      | none => rw [hO20 n hi, hβ20 n hi]; exact ⟨hn, .inl rfl⟩
      | some i =>
       obtain ⟨h1, h2⟩ := hinv1 _ _ hi
       rcases Nat.lt_or_ge i who.length with h3 | h3
       ·have hwi : who[i]? = some n := by
         have := hnmlt i _ (List.getElem?_eq_getElem h3)
         rw [List.getElem?_eq_getElem h3, ← this, h2]
        have hne : Oof (who.map fun n => (look n).ren (idxIn who)) i ≠ .none := by rw [hOc i n hwi]; exact fun h => hn (Ob.ren_none.1 h)
        obtain ⟨k1, k2⟩ := hstep.keep i hne
        rw [hO2 n i hi, hβ2 n i hi, ← hβc i n hwi]
        exact ⟨fun h => k1 (Ob.ren_none.1 h), k2⟩
       ·exact absurd (h2 ▸ hnewO i h3 h1) hn
     have hnewT : ∀ b, Tset β2 b → Tset β b ∨ w.heap.size ≤ b := fun b ⟨n, hn⟩ => by
      cases hi : inv n with
      | none => rw [hβ20 n hi] at hn; exact .inl ⟨n, hn⟩
      | some i =>
       rw [hβ2 n i hi] at hn
       rcases hstep.new b ⟨i, hn⟩ with h1 | h1
       ·exact .inl (hTc b h1)
       ·exact .inr h1
     refine ⟨v, β2, rfl, ?_, ⟨fun n => ?_, fun n m b h1 h2 => ?_, fun n b h1 hx => ?_, fun b hb => Nat.lt_of_lt_of_le (hO.xlt b hb) hstep.evo.size⟩, hstep.evo.weaken hTc, hkeep, hnewT⟩
     ·refine hrv.ren hMr fun k hk hCk => hren k ?_ hCk
      have := List.all_eq_true.1 hrvn k hk
      simpa using this
     ·cases hi : inv n with
      | some i =>
       show ObjRel w' _ _ _ (updL O (zipFrom nm 0 (outs.map (Ob.ren nm))) n) _
       rw [hO2 n i hi, hβ2 n i hi]
       refine (hObjs'.rel i).ren hMr fun k hk hCk => hren k ?_ hCk
       have h1 := (hinv1 n i hi).1
       rw [Oof_some (List.getElem?_eq_getElem h1)] at hk
       have := List.all_eq_true.1 houts _ (List.getElem_mem h1)
       have := List.all_eq_true.1 this k hk
       simpa using this
      | none =>
       show ObjRel w' _ _ _ (updL O (zipFrom nm 0 (outs.map (Ob.ren nm))) n) _
       rw [hO20 n hi, hβ20 n hi]
       refine (hO.rel n).mono hstep.evo (fun b hb => .inr (hTc b hb)) (fun b hb => ?_) hkeep fun b hb => hstep.evo.block b ((hO.rel n).lt hb) fun ⟨i, hi2⟩ => ?_
       ·rcases hb with hx | ht
        ·exact .inl (.inl hx)
        ·rcases hnewT b ht with h1 | h1
         ·exact .inl (.inr h1)
         ·exact .inr h1
       ·obtain ⟨m, hm, hb2⟩ := hblk i b hi2
        exact hnw n hi (hO.inj n m b hb hb2 ▸ List.mem_of_getElem? hm)
     ·cases hi : inv n with
      | some i =>
       rw [hβ2 n i hi] at h1
       cases hj : inv m with
       | some j =>
        rw [hβ2 m j hj] at h2
        rw [← (hinv1 n i hi).2, ← (hinv1 m j hj).2, hObjs'.inj i j b h1 h2]
       | none =>
        rw [hβ20 m hj] at h2
        exact absurd (.inr ⟨m, hnw m hj, h2⟩) (hObjs'.priv i b h1)
      | none =>
       rw [hβ20 n hi] at h1
       cases hj : inv m with
       | some j =>
        rw [hβ2 m j hj] at h2
        exact absurd (.inr ⟨n, hnw n hi, h1⟩) (hObjs'.priv j b h2)
       | none => rw [hβ20 m hj] at h2; exact hO.inj n m b h1 h2
     ·cases hi : inv n with
      | some i => rw [hβ2 n i hi] at h1; exact hObjs'.priv i b h1 (.inl hx)
      | none => rw [hβ20 n hi] at h1; exact hO.priv n b h1 hx
    ·
     have hM0 : ∀ b, Mset X (fun _ => HE.gone) b → X b := by
      rintro b (hx | ⟨o, ho⟩)
      ·exact hx
      ·cases ho
     have hObjs : Objs (Oof (([] : List Nat).map fun n => (look n).ren (idxIn []))) (fun _ => HE.gone) X w :=
      ⟨fun i => by rw [Oof_none (by simp)]; exact .none, fun i j b h1 => (by cases h1), fun i b h1 => (by cases h1), hO.xlt⟩
     have hCR : CR (Oof (([] : List Nat).map fun n => (look n).ren (idxIn []))) (fun _ => HE.gone) X w (AV.renL (idxIn []) l) vs := by
      refine ⟨by rw [renL_len, hvl]; exact hargs.size, fun j x hj => ?_⟩
      rw [renL_get] at hj
      cases hlj : l[j]? with
      | none => rw [hlj] at hj; cases hj
      | some y =>
       rw [hlj] at hj
       cases hj
       have hjl : j < args.length := by rw [← hvl]; exact (List.getElem?_eq_some_iff.1 hlj).1
       obtain ⟨y', b', h3, h4, h5⟩ := hvat j _ (List.getElem?_eq_getElem hjl)
       rw [hlj] at h3
       cases h3
       have h6 := view_ok (M' := Mset X fun _ => HE.gone) hO hl (fun b hb => .inl (hM0 b hb)) (hargs.at_ j _ (List.getElem?_eq_getElem hjl)) h4
        (fun _ b ⟨o, ho⟩ hm => hO.priv o b ho (hM0 b hm))
       refine h6.ren (fun _ h => h) fun k hk _ => ?_
       have := List.all_eq_true.1 hnm k (namesL_mem hlj hk)
       simp at this
     refine ⟨hF'.1, (hF w X (fun _ => HE.gone) vs hObjs hCR).mono fun en w' => ?_⟩
     rintro ⟨v, βr, rfl, hrv, hObjs', hstep⟩
     have hT0 : ∀ b, ¬ Tset (fun _ => HE.gone) b := fun b ⟨o, ho⟩ => by cases ho
     have hevo : Evo (Tset β) w w' := hstep.evo.weaken fun b hb => (hT0 b hb).elim
     have hst : Step O (updL O (zipFrom (outName [] dst) 0 (([] : List Ob).map (Ob.ren (outName [] dst))))) β β w w' := ⟨hevo, fun o ho => ⟨ho, .inl rfl⟩, fun b hb => .inl hb⟩
     refine ⟨v, β, rfl, flat_ok hrv hflat, ⟨fun n => ?_, hO.inj, hO.priv, fun b hb => Nat.lt_of_lt_of_le (hO.xlt b hb) hevo.size⟩, hst⟩
     exact (hO.rel n).mono hevo (fun _ hb => .inr hb) (hst.mset X) hst.keep fun b hb => hstep.evo.block b ((hO.rel n).lt hb) (hT0 b)
   ·cases ha
  ·cases ha
theorem Ob.plain_ren {x : Ob} {ρ : Nat → Nat} (h : x.plain = true) : x.ren ρ = x := by
 cases x with
 | box cs =>
  have key : ∀ l : List AV, (l.all fun | .d _ => true | _ => false) = true → AV.renL ρ l = l := fun l => by
   induction l with
   | nil => intro _; rfl
   | cons c r ih =>
    intro hl
    rw [List.all_cons, Bool.and_eq_true] at hl
    have h2 := ih hl.2
    cases c with
    | d d => show (AV.d d).ren ρ :: AV.renL ρ r = _; rw [h2]; rfl
    | _ => simp at hl
  show Ob.box (AV.renL ρ cs) = _
  rw [key cs h]
 | row sz es => rfl
 | _ => cases h
theorem updL_same {f : Nat → Nat} : ∀ (l : List Nat) (k : Nat) {O : Nat → Ob}, (∀ i n, l[i]? = some n → f (k + i) = n ∧ look n = O n) → updL O (zipFrom f k (l.map look)) = O
 | [], _, _, _ => rfl
 | n :: l, k, O, h => by
  obtain ⟨h1, h2⟩ := h 0 n rfl
  rw [Nat.add_zero] at h1
  have e : upd O (f k) (look n) = O := by
   funext m
   rw [h1, h2]
   by_cases hm : m = n
   ·subst hm; rw [upd_same]
   ·rw [upd_other _ _ hm]
  show updL (upd O (f k) (look n)) (zipFrom f (k + 1) (l.map look)) = O
  rw [e]
  exact updL_same l (k + 1) fun i m hi => by
   have := h (i + 1) m (by simpa using hi)
   rw [show k + 1 + i = k + (i + 1) by omega]
   exact this
theorem actLook_ok {dst : Nat} {f : FuncId} {args : List AV} {who : List Nat} {rv : AV} {e : Eff} {vs : Array Value} (hO : Objs O β X w) (hl : Looks O look) (hargs : CR O β X w args vs)
  (ha : actLook (FnOK P) dst f args who rv look = some e) (hob : ∀ p ∈ e.obs, p) : CallOK P f ∧ Calls P f vs w fun en w' => ∃ v β', en = .returned v ∧ Done O β X w e v β' w' := by
 unfold actLook at ha
 split at ha
 case isFalse => cases ha
 next hp =>
 split at ha
 ·next e0 h0 =>
  cases ha
  obtain ⟨h1, h2⟩ := actCallK_ok hO hl hargs h0 hob
  have hpl : ∀ n ∈ who, (look n).plain = true := fun n hn => List.all_eq_true.1 hp n hn
  have hlk : ∀ n ∈ who, look n = O n := fun n hn => by
   rcases hl n with g | g
   ·exact g
   ·have := hpl n hn; rw [g] at this; cases this
  have hwr : e0.wr = zipFrom (outName who dst) 0 (who.map look) := by
   unfold actCallK at h0
   split at h0
   ·split at h0
    ·cases h0
     show zipFrom _ 0 ((who.map look).map _) = _
     congr 1
     rw [List.map_map]
     refine List.map_congr_left fun n hn => ?_
     exact Ob.plain_ren (hpl n hn)
    ·cases h0
   ·cases h0
  have hup : updL O e0.wr = O := by
   rw [hwr]
   refine updL_same who 0 fun i n hi => ⟨?_, hlk n (List.mem_of_getElem? hi)⟩
   have hlt := (List.getElem?_eq_some_iff.1 hi).1
   unfold outName
   rw [Nat.zero_add, if_pos hlt, List.getD_eq_getElem?_getD, hi]; rfl
  refine ⟨h1, h2.mono fun en w' ⟨v, β', g1, g2⟩ => ⟨v, β', g1, ?_⟩⟩
  have a := g2.val
  have b := g2.objs
  have c := g2.step
  rw [hup] at a b c
  exact ⟨a, b, c⟩
 ·cases ha
theorem actCallH_ok {dst : Nat} {f : FuncId} {args : List AV} {h : OH} {e : Eff} {vs : Array Value} (hO : Objs O β X w) (hl : Looks O look) (hargs : CR O β X w args vs)
  (ha : actCallH (FnOK P) dst f args h look = some e) (hob : ∀ p ∈ e.obs, p) : CallOK P f ∧ Calls P f vs w fun en w' => ∃ v β', en = .returned v ∧ Done O β X w e v β' w' := by
 unfold actCallH at ha
 split at ha
 ·exact actCallK_ok hO hl hargs ha hob
 ·exact actCallK_ok hO hl hargs ha hob
 ·exact actLook_ok hO hl hargs ha hob
 ·cases ha
theorem actCall_ok {dst : Nat} {f : FuncId} {args : List AV} {h : OH} {e : Eff} {vs : Array Value} (hO : Objs O β X w) (hl : Looks O look) (hargs : CR O β X w args vs)
  (ha : actCall (FnOK P) dst f args h look = some e) (hob : ∀ p ∈ e.obs, p) : CallOK P f ∧ Calls P f vs w fun en w' => ∃ v β', en = .returned v ∧ Done O β X w e v β' w' := by
 unfold actCall at ha
 split at ha
 ·split at ha
  ·split at ha
   ·split at ha
    ·exact actCallH_ok hO hl hargs ha hob
    ·cases ha
   ·cases ha
  ·cases ha
 ·exact actCallH_ok hO hl hargs ha hob
end
end Sx
end Go.Proofs.YtalpfhpeaaocmaaGreat
end
section
namespace Go.Proofs.YtalpfhpeaaocmaaGreat
namespace Sx
open Go.RowKit
section
variable {P : Program} {β : Nat → HE} {X : Nat → Prop} {w : World} {S : AS} {a : Act}
theorem ev_ok (hR : Rel S β X a w) (x : Operand) : AR S.O β X w (S.ev x) (a.eval x) := by
 cases x with
 | tmp t => exact hR.slots t
 | const v => exact constAV_ok v
 | global g => exact .dead _
 | func f => exact .fn f [] #[] rfl fun j x hj => by simp at hj
theorem narrow_looks (names : List Nat) (O : Nat → Ob) : Looks O (narrow names O) := fun n => by
 unfold narrow
 split
 ·exact .inl rfl
 ·exact .inr rfl
theorem evs_ok (hR : Rel S β X a w) (l : Array Operand) : CR S.O β X w (l.toList.map S.ev) (l.map a.eval) := by
 refine ⟨by simp, fun j x hj => ?_⟩
 rw [List.getElem?_map] at hj
 cases hl : l.toList[j]? with
 | none => rw [hl] at hj; cases hj
 | some o =>
  rw [hl] at hj; cases hj
  have : (l.map a.eval).getD j undef = a.eval o := by
   rw [Array.getD_eq_getD_getElem?, Array.getElem?_map, ← Array.getElem?_toList, hl]; rfl
  rw [this]
  exact ev_ok hR o
theorem parts_ok (hR : Rel S β X a w) (ps : List (Nat × Operand)) : Fa (fun (p : Nat × AV) (q : Nat × Value) => p.1 = q.1 ∧ AR S.O β X w p.2 q.2) (ps.map fun p => (p.1, S.ev p.2)) (ps.map fun (i, x) => (i, a.eval x)) := by
 induction ps with
 | nil => exact .nil
 | cons p r ih => exact Fa.cons (x := (p.1, S.ev p.2)) (y := (p.1, a.eval p.2)) ⟨rfl, ev_ok hR _⟩ ih
theorem optE_ok (hR : Rel S β X a w) (x : Option Operand) : OptR S.O β X w (optE S.ev x) (x.map a.eval) := by
 cases x with
 | none => exact True.intro
 | some o => exact ev_ok hR o
theorem wp_value {o : Oper} {K : Act → World → Prop} {Q : Exit → Act → World → Prop} {v : Value} {w' : World} (hrun : (execOp a.eval o).run P w = .ok (.value v) w') (hK : K (a.put o.dst v) w') : o.wp P a w K Q := by
 unfold Oper.wp; rw [hrun]; exact hK
theorem wp_skip' {o : Oper} {K : Act → World → Prop} {Q : Exit → Act → World → Prop} {w' : World} (hrun : (execOp a.eval o).run P w = .ok .skip w') (hK : K (a.put o.dst undef) w') : o.wp P a w K Q := by
 unfold Oper.wp; rw [hrun]; exact hK
theorem wp_enter {o : Oper} {K : Act → World → Prop} {Q : Exit → Act → World → Prop} {f : FuncId} {args : Array Value} (hrun : (execOp a.eval o).run P w = .ok (.enter f args) w)
  (hK : Calls P f args w fun e w' => ∃ v, e = .returned v ∧ K (a.put o.dst v) w') : o.wp P a w K Q := by
 unfold Oper.wp; rw [hrun]
 exact hK.mono fun e w' ⟨v, he, hk⟩ => by subst he; exact hk
theorem Fa_of {α β' : Type} {R : α → β' → Prop} {l : List α} {m : List β'} (h : l.length = m.length) (hh : ∀ (j : Nat) (x : α) (y : β'), l[j]? = some x → m[j]? = some y → R x y) : Fa R l m := by
 induction l generalizing m with
 | nil => cases m with | nil => exact .nil | cons _ _ => simp at h
 | cons x r ih =>
  cases m with
  | nil => simp at h
  | cons y s => exact .cons (hh 0 x y rfl rfl) (ih (by simpa using h) fun j a b ha hb => hh (j + 1) a b (by simpa using ha) (by simpa using hb))
theorem exec_buildSlice (ρ : Operand → Value) (o : Oper) (T : TypeId) (n : Nat) (ps : Array (Nat × Operand)) (h : o.op = .buildSlice T n ps) :
  execOp ρ o = (do pure (Next.value (← Instr.buildSlice T n (ps.map fun (i, x) => (i, ρ x))))) := by
 unfold execOp
 rw [h]
/-- What is known behind an operation. -/
def After (S : AS) (e : Eff) (β : Nat → HE) (X : Nat → Prop) (w : World) (o : Oper) (a : Act) (K : Act → World → Prop) : Prop :=
 ∀ v w' β', Done S.O β X w e v β' w' → K (a.put o.dst v) w'
theorem funcs_call {f : FuncId} (h : CallOK P f) (args : Array Value) (w : World) : (callFunc f args).run P w = .ok (.enter f args) w := by
 obtain ⟨fn, h1, h2, h3⟩ := h
 have h4 : fn.body.isNone = false := by
  cases hb : fn.body with
  | none => rw [hb] at h2; cases h2
  | some c => rfl
 simp only [callFunc, Sem.run_bind, run_program, Result.andThen_ok, h1, h3, Bool.false_eq_true, if_false, h4]
 rfl
theorem CR.append {O : Nat → Ob} {cs ds : List AV} {vs us : Array Value} (h : CR O β X w cs vs) (k : CR O β X w ds us) : CR O β X w (cs ++ ds) (vs ++ us) := by
 refine ⟨by simp [h.size, k.size], fun j x hj => ?_⟩
 rw [Array.getD_eq_getD_getElem?]
 by_cases hlt : j < cs.length
 ·rw [List.getElem?_append_left hlt] at hj
  rw [Array.getElem?_append_left (by rw [h.size]; exact hlt), ← Array.getD_eq_getD_getElem?]
  exact h.at_ j x hj
 ·rw [List.getElem?_append_right (by omega)] at hj
  rw [Array.getElem?_append_right (by rw [h.size]; omega), ← Array.getD_eq_getD_getElem?, h.size]
  exact k.at_ _ x hj
theorem actOp_ok {h : OH} {o : Oper} {e : Eff} {look : Nat → Ob} {K : Act → World → Prop} {Q : Exit → Act → World → Prop} (hR : Rel S β X a w) (hl : Looks S.O look) (ha : actOp P (FnOK P) h o S.ev look = some e) (hob : ∀ p ∈ e.obs, p)
  (hK : After S e β X w o a K) : o.wp P a w K Q := by
 have hO := hR.objs
 
 have pure1 : ∀ (m : Sem Value) (v : Value), (execOp a.eval o) = (do pure (Next.value (← m))) → m.run P w = .ok v w → AR S.O β X w e.val v → e.wr = [] → o.wp P a w K Q := by
  intro m v h1 h2 h3 h4
  refine wp_value (v := v) (w' := w) (by rw [h1]; simp only [Sem.run_bind, h2, Result.andThen_ok]; rfl) (hK v w β ?_)
  obtain ⟨val, wr, obs⟩ := e
  simp only at h4
  subst h4
  exact Done.pure hO h3
 have mem1 : ∀ (m : Sem Value), (execOp a.eval o) = (do pure (Next.value (← m))) → (∃ v w' β', m.run P w = .ok v w' ∧ Done S.O β X w e v β' w') → o.wp P a w K Q := by
  rintro m h1 ⟨v, w', β', h2, h3⟩
  exact wp_value (v := v) (w' := w') (by rw [h1]; simp only [Sem.run_bind, h2, Result.andThen_ok]; rfl) (hK v w' β' h3)
 obtain ⟨dst, op, type, pos, after, guard⟩ := o
 cases op with
 | move x =>
  change pureE (S.ev x) = some e at ha; cases ha
  exact wp_value rfl (hK _ _ _ (Done.pure hO (ev_ok hR x)))
 | assign x =>
  change pureE (S.ev x) = some e at ha; cases ha
  exact wp_value rfl (hK _ _ _ (Done.pure hO (ev_ok hR x)))
 | pick c x y =>
  change (match S.ev c with | .d (.bool true) => pureE (S.ev x) | .d (.bool false) => pureE (S.ev y) | _ => none) = some e at ha
  split at ha
  ·next hc =>
   cases ha
   have h1 := ev_ok hR c
   rw [hc] at h1
   have h2 := h1.d_inv.bool_inv
   refine wp_value (v := a.eval x) (w' := w) ?_ (hK _ _ _ (Done.pure hO (ev_ok hR x)))
   simp [execOp, h2, asBool]
  ·next hc =>
   cases ha
   have h1 := ev_ok hR c
   rw [hc] at h1
   have h2 := h1.d_inv.bool_inv
   refine wp_value (v := a.eval y) (w' := w) ?_ (hK _ _ _ (Done.pure hO (ev_ok hR y)))
   simp [execOp, h2, asBool]
  ·cases ha
 | alloc T => change actAlloc P _ T h look = some e at ha; exact mem1 (Instr.alloc T true (.tuple #[])) rfl (actAlloc_ok hO hl ha)
 | box T x => change actBox _ (S.ev x) look = some e at ha; exact mem1 (Instr.box T (a.eval x)) rfl (actBox_ok hO hl (ev_ok hR x) ha)
 | build T ps =>
  change actBuild P T (ps.toList.map fun p => (p.1, S.ev p.2)) = some e at ha
  obtain ⟨v, h1, h2, h3⟩ := actBuild_ok (vparts := ps.map fun (i, x) => (i, a.eval x)) (by rw [Array.toList_map]; exact parts_ok hR ps.toList) ha
  exact pure1 (Instr.build T (ps.map fun (i, x) => (i, a.eval x))) v rfl h1 h2 h3
 | buildSlice T n ps =>
  change actBuildSlice P _ T n (ps.toList.map fun p => (p.1, S.ev p.2)) look = some e at ha
  have hp : Fa (fun (p : Nat × AV) (q : Nat × Value) => p.1 = q.1 ∧ AR S.O β X w p.2 q.2) (ps.toList.map fun p => (p.1, S.ev p.2)) (ps.map fun (i, x) => (i, a.eval x)).toList := by
   rw [Array.toList_map]; exact parts_ok hR ps.toList
  have h1 := actBuildSlice_ok hO hl hp ha
  have h2 := exec_buildSlice a.eval ⟨dst, .buildSlice T n ps, type, pos, after, guard⟩ T n ps rfl
  exact mem1 _ h2 h1
 | load T x =>
  change actLoad P T (S.ev x) h look = some e at ha
  obtain ⟨v, h1, h2, h3⟩ := actLoad_ok hO hl (ev_ok hR x) ha hob
  exact pure1 (Instr.loadAt T (a.eval x)) v rfl h1 h2 h3
 | store T x y =>
  change actStore P T (S.ev x) (S.ev y) h look = some e at ha
  obtain ⟨w', β', h1, h2⟩ := actStore_ok hO hl (ev_ok hR x) (ev_ok hR y) ha hob
  exact wp_skip' (w' := w') (by simp only [execOp, Sem.run_bind, h1, Result.andThen_ok]; rfl) (hK _ _ _ h2)
 | nilCheck x =>
  change (match S.ev x with | .ptr o off => (match look o with | .box _ => pureE (.ptr o off) | _ => none) | .rptr o sz i off => (match look o with | .row _ es => some ⟨.rptr o sz i off, [], [es ≠ []]⟩ | _ => none) | .fn f cap => pureE (.fn f cap) | _ => none) = some e at ha
  split at ha
  ·next o off hx =>
   split at ha
   ·next cs hlk =>
    cases ha
    obtain ⟨b, cur, t, lo, hi, hβ, -⟩ := hO.box (hl.box hlk)
    have h1 := ev_ok hR x
    rw [hx] at h1
    generalize hv : a.eval x = v at h1
    have h1' := h1
    cases h1 with
    | ptr o off v hC hone hv2 =>
     obtain rfl := hv2 b hβ
     exact wp_value (v := .pointer (some ⟨b, off, none⟩)) (w' := w) (by simp only [execOp, hv]; rfl) (hK _ _ _ (Done.pure hO h1'))
   ·cases ha
  ·next o sz i off hx =>
   split at ha
   ·next szr es hlk =>
    cases ha
    have hne : es ≠ [] := hob _ (by simp)
    have h1 := ev_ok hR x
    rw [hx] at h1
    generalize hv : a.eval x = v at h1
    have h1' := h1
    rcases hO.row (hl.row hlk) with ⟨hes, -⟩ | ⟨b, cur, t, lo, hi, hβ, -⟩
    ·exact absurd hes hne
    ·cases h1 with
     | rptr o sz i off v hC hone hv2 =>
      obtain ⟨-, rfl⟩ := hv2 _ _ _ _ hβ
      exact wp_value (v := .pointer (some ⟨b, i * sz + off, none⟩)) (w' := w) (by simp only [execOp, hv]; rfl) (hK _ _ _ (Done.pure hO h1'))
   ·cases ha
  ·next f cap hx =>
   cases ha
   have h1 := ev_ok hR x
   rw [hx] at h1
   generalize hv : a.eval x = v at h1
   have h1' := h1
   cases h1 with
   | fn f cs vs hl2 hr => exact wp_value (v := .func (.func f) #[] vs) (w' := w) (by simp only [execOp, hv]; rfl) (hK _ _ _ (Done.pure hO h1'))
  ·cases ha
 | binOp op T x y U =>
  change actBin P op T (S.ev x) (S.ev y) look = some e at ha
  obtain ⟨v, h1, h2, h3⟩ := actBin_ok (xo := x) (yo := y) hO hl (ev_ok hR x) (ev_ok hR y) ha hob
  exact pure1 (do eqGuard op T x y (a.eval x) (a.eval y); binOp op T (a.eval x) (a.eval y)) v rfl h1 h2 h3
 | unOp op T x =>
  change actUn op (S.ev x) = some e at ha
  obtain ⟨v, h1, h2, h3⟩ := actUn_ok (ev_ok hR x) ha
  exact pure1 (Op.unary op (a.eval x)) v rfl h1 h2 h3
 | convert s t x =>
  change actConvert P _ s t (S.ev x) h look = some e at ha
  by_cases hst : ∃ el, P.underlying s = some .string ∧ P.underlying t = some (.slice el)
  ·obtain ⟨el, hs, ht⟩ := hst
   exact mem1 (convert s t (a.eval x)) rfl (actConvertBytes_ok hO hl (ev_ok hR x) hs ht ha)
  ·by_cases hsm : ∃ el el', P.underlying s = some (.slice el) ∧ P.underlying t = some (.slice el')
   ·obtain ⟨el, el', hs, ht⟩ := hsm
    exact mem1 (convert s t (a.eval x)) rfl (actConvertMark_ok hO hl (ev_ok hR x) hs ht ha hob)
   ·obtain ⟨v, h1, h2, h3⟩ := actConvert_ok hO hl (ev_ok hR x) ha hob (fun el hh => hst ⟨el, hh⟩) (fun el el' hh => hsm ⟨el, el', hh⟩)
    exact pure1 (convert s t (a.eval x)) v rfl h1 h2 h3
 | makeFunc fn first cap =>
  cases fn with
  | func f =>
   change (if first.isEmpty then pureE (.fn f (cap.toList.map S.ev)) else if cap.isEmpty then pureE (.meth f (first.toList.map S.ev)) else none) = some e at ha
   split at ha
   ·next hf =>
    cases ha
    have hf2 : first = #[] := by simpa using hf
    subst hf2
    refine wp_value (v := .func (.func f) #[] (cap.map a.eval)) (w' := w) (by simp [execOp, Instr.makeFunc]) (hK _ _ _ (Done.pure hO ?_))
    have h1 := evs_ok hR cap
    exact .fn f _ _ h1.size h1.at_
   ·split at ha
    ·next hf =>
     cases ha
     have hf2 : cap = #[] := by simpa using hf
     subst hf2
     refine wp_value (v := .func (.func f) (first.map a.eval) #[]) (w' := w) (by simp [execOp, Instr.makeFunc]) (hK _ _ _ (Done.pure hO ?_))
     have h1 := evs_ok hR first
     exact .meth f _ _ h1.size h1.at_
    ·cases ha
  | _ => cases ha
 | makeSlice T x y => change actMake P _ T (S.ev x) (S.ev y) look = some e at ha; exact mem1 (Instr.makeSlice T (a.eval x) (a.eval y)) rfl (actMake_ok hO hl (ev_ok hR x) (ev_ok hR y) ha hob)
 | slice T x lo hi mx =>
  change actSlice P T (S.ev x) (optE S.ev lo) (optE S.ev hi) (optE S.ev mx) look = some e at ha
  obtain ⟨v, h1, h2, h3⟩ := actSlice_ok hO hl (ev_ok hR x) (optE_ok hR lo) (optE_ok hR hi) (optE_ok hR mx) ha hob
  exact pure1 (Instr.sliceAt T (a.eval x) (lo.map a.eval) (hi.map a.eval) (mx.map a.eval)) v rfl h1 h2 h3
 | fieldAddr T x f =>
  change actFieldAddr P T (S.ev x) f look = some e at ha
  obtain ⟨v, h1, h2, h3⟩ := actFieldAddr_ok hO hl (ev_ok hR x) ha hob
  exact pure1 (Instr.fieldAt T (a.eval x) f) v rfl h1 h2 h3
 | field T x f =>
  change actField P T (S.ev x) f = some e at ha
  obtain ⟨v, h1, h2, h3⟩ := actField_ok (ev_ok hR x) ha
  exact pure1 (Instr.field T (a.eval x) f) v rfl h1 h2 h3
 | indexAddr T x i =>
  change actIndexAddr P T (S.ev x) (S.ev i) h look = some e at ha
  obtain ⟨v, h1, h2, h3⟩ := actIndexAddr_ok hO hl (ev_ok hR x) (ev_ok hR i) ha hob
  exact pure1 (Instr.indexAt T (a.eval x) (a.eval i)) v rfl h1 h2 h3
 | index T x i =>
  change actIndex P T (S.ev x) (S.ev i) h = some e at ha
  obtain ⟨v, h1, h2, h3⟩ := actIndex_ok (ev_ok hR x) (ev_ok hR i) ha hob
  exact pure1 (Instr.index T (a.eval x) (a.eval i)) v rfl h1 h2 h3
 | extract x i =>
  change (match S.ev x with | .tup vs => (match vs[i]? with | some v => pureE v | none => none) | _ => none) = some e at ha
  split at ha
  ·next vs hx =>
   split at ha
   ·next y hy =>
    cases ha
    have h1 := ev_ok hR x
    rw [hx] at h1
    generalize hv : a.eval x = v at h1
    cases h1 with
    | tup cs us hl2 hr =>
     have hi := (List.getElem?_eq_some_iff.1 hy).1
     have hu : us[i]? = some (us.getD i undef) := by simp [Array.getD_eq_getD_getElem?, show i < us.size by omega]
     exact pure1 (Instr.extract (a.eval x) i) (us.getD i undef) rfl (by simp only [Instr.extract, hv, hu]; rfl) (hr i y hy) rfl
   ·cases ha
  ·cases ha
 | call c =>
  change (match c.callee with
   | .builtin b => actBuiltin P _ b c.argTypes.toList (c.args.toList.map S.ev) look
   | .value f => match calleeOf (S.ev f) with | some (g, fs, cap) => actCall (FnOK P) _ g (fs ++ (c.args.toList.map S.ev ++ cap)) h look | none => none
   | .invoke _ _ => none) = some e at ha
  split at ha
  ·next b hcb =>
   
   have hx : ∀ s : Sem Value, builtin b c.argTypes type (c.args.map fun | .const _ => true | _ => false) (c.args.map a.eval) = (do pure (Next.value (← s))) →
     execOp a.eval ⟨dst, .call c, type, pos, after, guard⟩ = (do pure (Next.value (← s))) := by
    intro s hs
    simp only [execOp, resolve, hcb, pure_bind, invoke]
    exact hs
   have hargs := evs_ok hR c.args
   unfold actBuiltin at ha
   split at ha
   ·next T ts x hts hxs =>
    split at ha
    ·next n hn =>
     cases ha
     have h0 : c.argTypes[0]? = some T := by rw [← Array.getElem?_toList, hts]; rfl
     have hx1 := hargs.at_ 0 x (by rw [hxs]; rfl)
     have hsz := hargs.size
     rw [hxs] at hsz
     have hv : (c.args.map a.eval)[0]? = some ((c.args.map a.eval).getD 0 undef) := by
      have h9 : 0 < (c.args.map a.eval).size := by rw [hsz]; simp
      rw [Array.getD_eq_getD_getElem?, Array.getElem?_eq_getElem h9]; rfl
     exact pure1 (Builtin.len_ c.argTypes type (c.args.map a.eval)) (.int .i64 n) (hx (Builtin.len_ c.argTypes type (c.args.map a.eval)) rfl) (lenOf_ok hO hl hx1 hn h0 hv) (.d _ _ (.int _ _)) rfl
    ·cases ha
   ·next hxs =>
    split at ha
    ·next k n hm =>
     cases ha
     have hfa : Fa (AR S.O β X w) (c.args.toList.map S.ev) (c.args.map a.eval).toList := by
      refine Fa_of (by simp) fun j x y h1 h2 => ?_
      have := hargs.at_ j x h1
      rwa [Array.getD_eq_getD_getElem?, ← Array.getElem?_toList, h2] at this
     refine pure1 (Builtin.min_ c.argTypes type (c.args.map a.eval)) (.int k n) (hx _ rfl) ?_ (.d _ _ (.int _ _)) rfl
     unfold Builtin.min_
     generalize hvs : (c.args.map a.eval).toList = vs at hfa
     generalize c.args.toList.map S.ev = xs at hfa hm
     unfold minI at hm
     split at hm
     ·next k' a0 r =>
      cases hfa with
      | cons hx1 hr =>
       obtain rfl := hx1.d_inv.int_inv
       split at hm
       ·next m hm2 => cases hm; exact minFrom_ok hm2 hr
       ·cases hm
     ·cases hm
    ·cases ha
   ·next hxs =>
    split at ha
    ·next k n hm =>
     cases ha
     have hfa : Fa (AR S.O β X w) (c.args.toList.map S.ev) (c.args.map a.eval).toList := by
      refine Fa_of (by simp) fun j x y h1 h2 => ?_
      have := hargs.at_ j x h1
      rwa [Array.getD_eq_getD_getElem?, ← Array.getElem?_toList, h2] at this
     refine pure1 (Builtin.max_ c.argTypes type (c.args.map a.eval)) (.int k n) (hx _ rfl) ?_ (.d _ _ (.int _ _)) rfl
     unfold Builtin.max_
     generalize hvs : (c.args.map a.eval).toList = vs at hfa
     generalize c.args.toList.map S.ev = xs at hfa hm
     unfold maxI at hm
     split at hm
     ·next k' a0 r =>
      cases hfa with
      | cons hx1 hr =>
       obtain rfl := hx1.d_inv.int_inv
       split at hm
       ·next m hm2 => cases hm; exact maxFrom_ok hm2 hr
       ·cases hm
     ·cases hm
    ·cases ha
   ·next T U s x hts hxs =>
    have ht : c.argTypes = #[T, U] := by apply Array.ext'; exact hts
    have h0 := hargs.at_ 0 s (by rw [hxs]; rfl)
    have h1 := hargs.at_ 1 x (by rw [hxs]; rfl)
    have hsz := hargs.size
    rw [hxs] at hsz
    have hv : c.args.map a.eval = #[(c.args.map a.eval).getD 0 undef, (c.args.map a.eval).getD 1 undef] := by
     generalize c.args.map a.eval = q at hsz
     obtain ⟨q⟩ := q
     match q, hsz with
     | [q0, q1], _ => rfl
    refine mem1 (Builtin.append_ c.argTypes type (c.args.map a.eval)) (hx _ rfl) ?_
    rw [hv, ht]
    split at ha
    ·next e' hin => cases ha; exact actAppendIn_ok hO hl h0 h1 hin hob
    ·exact actAppend_ok hO hl h0 h1 ha hob
   ·next T x hts hxs =>
    have ht : c.argTypes = #[T] := by apply Array.ext'; exact hts
    have h0 := hargs.at_ 0 x (by rw [hxs]; rfl)
    have hsz := hargs.size
    rw [hxs] at hsz
    have hv : c.args.map a.eval = #[(c.args.map a.eval).getD 0 undef] := by
     generalize c.args.map a.eval = q at hsz
     obtain ⟨q⟩ := q
     match q, hsz with
     | [q0], _ => rfl
    refine mem1 (Builtin.clear_ c.argTypes type (c.args.map a.eval)) (hx _ rfl) ?_
    rw [hv, ht]
    exact actClear_ok hO hl h0 ha hob
   ·next T ts p n c1 hts hxs =>
    split at ha
    ·next el hT =>
     cases ha
     have h0 := hargs.at_ 0 _ (by rw [hxs]; rfl)
     have h1 := h0.raw_inv
     have hsz := hargs.size
     rw [hxs] at hsz
     have hv : c.args.map a.eval = #[.slice p n c1] := by
      generalize c.args.map a.eval = q at hsz h1
      obtain ⟨q⟩ := q
      match q, hsz with
      | [q0], _ => simp at h1; rw [h1]
     have ht : c.argTypes[0]? = some T := by
      rw [← Array.getElem?_toList, hts]; rfl
     refine pure1 (Builtin.cap_ c.argTypes type (c.args.map a.eval)) (.int .i64 c1) (hx _ rfl) ?_ (.d _ _ (.int _ _)) rfl
     rw [hv]
     unfold Builtin.cap_
     rw [ht]
     simp only [List.getElem?_toArray, List.getElem?_cons_zero, Sem.run_bind, run_underlying hT, Result.andThen_ok]
     rfl
    ·cases ha
   ·cases ha
  ·next f hcv =>
   split at ha
   ·next g fs cap hcal =>
    have hfv := ev_ok hR f
    unfold calleeOf at hcal
    split at hcal
    ·next f' cap' hef =>
     cases hcal
     rw [hef] at hfv
     generalize hv : a.eval f = v at hfv
     cases hfv with
     | fn f cs vs hl2 hr =>
      have hcr := (evs_ok hR c.args).append (CR.mk hl2 hr)
      obtain ⟨hcall, hcalls⟩ := actCall_ok (w := w) hO hl hcr ha hob
      refine wp_enter (f := g) (args := c.args.map a.eval ++ vs) ?_ (hcalls.mono fun en w' ⟨v, β', h1, h2⟩ => ⟨v, h1, hK v w' β' h2⟩)
      simp only [execOp, resolve, hcv, hv, Deferred.ofValue, pure_bind, invoke]
      simpa using funcs_call hcall _ w
    ·next f' fs' hef =>
     cases hcal
     rw [hef] at hfv
     generalize hv : a.eval f = v at hfv
     cases hfv with
     | meth f cs vs hl2 hr =>
      have hcr := (CR.mk hl2 hr).append (evs_ok hR c.args)
      rw [List.append_nil] at ha
      obtain ⟨hcall, hcalls⟩ := actCall_ok (w := w) hO hl hcr ha hob
      refine wp_enter (f := g) (args := vs ++ c.args.map a.eval) ?_ (hcalls.mono fun en w' ⟨v, β', h1, h2⟩ => ⟨v, h1, hK v w' β' h2⟩)
      simp only [execOp, resolve, hcv, hv, Deferred.ofValue, pure_bind, invoke]
      simpa using funcs_call hcall _ w
    ·cases hcal
   ·cases ha
  ·cases ha
 | _ => cases ha
theorem act_ok {h : OH} {o : Oper} {e : Eff} {K : Act → World → Prop} {Q : Exit → Act → World → Prop} (hR : Rel S β X a w) (ha : act P (FnOK P) h o S.ev S.O = some e) (hob : ∀ p ∈ e.obs, p)
  (hK : After S e β X w o a K) : o.wp P a w K Q := by
 unfold act at ha
 split at ha
 ·next e0 he0 =>
  unfold retell at ha
  split at ha
  ·next d' =>
   split at ha
   ·next d hd =>
    cases ha
    have heq : d = d' := hob _ (by simp)
    subst heq
    refine actOp_ok hR (narrow_looks _ _) he0 (fun p hp => hob p (by simp [hp])) fun v w' β' hdone => hK v w' β' ⟨?_, hdone.objs, hdone.step⟩
    have := hdone.val
    rw [hd] at this
    exact this
   ·cases ha
  ·cases ha
   exact actOp_ok hR (narrow_looks _ _) he0 hob hK
 ·cases ha
end
end Sx
end Go.Proofs.YtalpfhpeaaocmaaGreat
end
section
namespace Go.Proofs.YtalpfhpeaaocmaaGreat
namespace Sx
open Go.RowKit
/-- What an operation touches: slots read, slot written, objects seen, objects written. -/
structure FP where
 rd : List Nat
 dst : Option Nat
 seen : List Nat
 wr : List Nat
 kind : List Nat
 wrb : List Nat
def isBox : Ob → Bool
 | .box _ => true
 | _ => false
/-- Of what it is led to, it asks just whether that is cells. -/
def kindOp (o : Oper) (E : Operand → AV) : Bool :=
 match o.op with
 | .nilCheck x => (match E x with | .ptr _ _ => true | _ => false)
 | .fieldAddr _ x _ => (match E x with | .ptr _ _ => true | _ => false)
 | .indexAddr _ x _ => (match E x with | .ptr _ _ => true | _ => false)
 | _ => false
/-- It asks nothing of what it is led to. -/
def blindOp (o : Oper) : Bool :=
 match o.op with
 | .move _ => true
 | .assign _ => true
 | _ => false
def seenOf (h : OH) (o : Oper) (E : Operand → AV) : List Nat := if kindOp o E || blindOp o then h.who ++ (List.range 8).map (newName (match o.dst with | some d => d | none => 0)) else opNames h o E
def kindOf (o : Oper) (E : Operand → AV) : List Nat := if kindOp o E then argNames o E else []
def wrbOf (O : Nat → Ob) (l : List (Nat × Ob)) : List Nat := if (l.map (·.1)).Nodup then (l.filter fun p => isBox (O p.1) && isBox p.2).map (·.1) else []
def tmpsOf : List Operand → List Nat
 | [] => []
 | .tmp t :: r => t :: tmpsOf r
 | _ :: r => tmpsOf r
def guardSlot (ops : Array Oper) (o : Oper) : List Nat :=
 match o.guard with
 | none => []
 | some (j, _) => match ops[j]? with
  | some oj => match oj.dst with | some d => [d] | none => []
  | none => []
def hintAt (hs : List (Nat × OH)) (i : Nat) : OH := match hs.lookup i with | some h => h | none => .n
def putE (E : Nat → AV) (dst : Option Nat) (v : AV) : Nat → AV := match dst with | some d => upd E d v | none => E
/-- Does it run? none: not known. -/
def runs (ops : Array Oper) (o : Oper) (E : Nat → AV) : Option Bool :=
 match o.guard with
 | none => some true
 | some (j, want) => match ops[j]? with
  | some oj => match oj.dst with
   | some d => match E d with | .d (.bool b) => (match b, want with | true, true => some true | false, false => some true | _, _ => some false) | .raw (.tuple _) => some false | _ => none
   | none => none
  | none => none
def dstOK (S : AS) (dst : Option Nat) : Bool := match dst with | some d => decide (d < S.nt) | none => true
def stepOp (P : Program) (F : FnRel) (ops : Array Oper) (hs : List (Nat × OH)) (i : Nat) (S : AS) : Option (AS × List Prop × FP) :=
 match ops[i]? with
 | none => none
 | some o =>
  if dstOK S o.dst then
   match runs ops o S.E with
   | some true =>
    match act P F (hintAt hs i) o S.ev S.O with
    | some e => some ({ S with E := putE S.E o.dst e.val, O := updL S.O e.wr }, e.obs, ⟨tmpsOf o.op.operands.toList ++ guardSlot ops o, o.dst, seenOf (hintAt hs i) o S.ev, e.wr.map (·.1), kindOf o S.ev, wrbOf S.O e.wr⟩)
    | none => none
   | some false => some ({ S with E := putE S.E o.dst (.raw undef) }, [], ⟨guardSlot ops o, o.dst, [], [], [], []⟩)
   | none => none
  else none
section
variable {P : Program} {F : FnRel} {ops : Array Oper} {hs : List (Nat × OH)}
/-- Running a list of operations, what each touches being known. -/
def RunR (P : Program) (F : FnRel) (ops : Array Oper) (hs : List (Nat × OH)) (fp : Nat → FP) : List Nat → AS → AS → Prop
 | [], S, S' => S = S'
 | i :: r, S, S' => ∃ S1 obs, stepOp P F ops hs i S = some (S1, obs, fp i) ∧ (∀ p ∈ obs, p) ∧ RunR P F ops hs fp r S1 S'
theorem putE_act (E : Nat → AV) (a : Act) (dst : Option Nat) (v : Value) (t : Nat) (nt : Nat) (hs : a.tmps.size = nt) (hd : ∀ d, dst = some d → d < nt) :
  (a.put dst v).tmps.getD t undef = if dst = some t then v else a.tmps.getD t undef := by
 cases dst with
 | none => simp [Act.put]
 | some d =>
  have h := hd d rfl
  simp only [Act.put, Array.getD_eq_getD_getElem?, Array.getElem?_setIfInBounds]
  by_cases hdt : d = t
  ·subst hdt
   rw [if_pos rfl, if_pos rfl]
   simp [show d < a.tmps.size by omega]
  ·rw [if_neg hdt, if_neg (by simpa using hdt)]
theorem rel_after {β β' : Nat → HE} {X : Nat → Prop} {w w' : World} {S : AS} {a : Act} {e : Eff} {v : Value} {dst : Option Nat} (hR : Rel S β X a w) (hd : ∀ d, dst = some d → d < S.nt) (hdone : Done S.O β X w e v β' w') :
  Rel { S with E := putE S.E dst e.val, O := updL S.O e.wr } β' X (a.put dst v) w' := by
 refine ⟨?_, ?_, fun t => ?_, hdone.objs⟩
 ·cases dst with
  | none => exact hR.size
  | some d => simpa [Act.put] using hR.size
 ·cases dst with
  | none => exact hR.defers
  | some d => exact hR.defers
 ·rw [putE_act S.E a dst v t S.nt hR.size hd]
  cases dst with
  | none => simp only [putE, reduceCtorEq, if_false]; exact hdone.step.rav (hR.slots t)
  | some d =>
   simp only [putE, Option.some.injEq]
   by_cases hdt : d = t
   ·subst hdt; rw [if_pos rfl, upd_same]; exact hdone.val
   ·rw [if_neg hdt, upd_other _ _ (Ne.symm hdt)]; exact hdone.step.rav (hR.slots t)
theorem wanted_true {o : Oper} {S : AS} {β : Nat → HE} {X : Nat → Prop} {a : Act} {w : World} {b : Bool} (hR : Rel S β X a w) (h : runs ops o S.E = some b) : Region.wanted o (yielded ops a.tmps) = b := by
 unfold runs at h
 unfold Region.wanted
 cases hg : o.guard with
 | none => rw [hg] at h; cases h; rfl
 | some g =>
  obtain ⟨j, want⟩ := g
  rw [hg] at h
  simp only at h ⊢
  cases hj : ops[j]? with
  | none => rw [hj] at h; cases h
  | some oj =>
   rw [hj] at h
   simp only at h
   cases hd : oj.dst with
   | none => rw [hd] at h; cases h
   | some d =>
    rw [hd] at h
    simp only at h
    split at h
    ·next c hE =>
     have h1 := hR.slots d
     rw [hE] at h1
     have h2 := h1.d_inv.bool_inv
     have h3 : a.tmps[d]? = some (.bool c) := by
      rw [Array.getD_eq_getD_getElem?] at h2
      cases hq : a.tmps[d]? with
      | none => rw [hq] at h2; simp [undef] at h2
      | some u => rw [hq] at h2; simp at h2; rw [h2]
     have h4 : yielded ops a.tmps j = some c := by simp [yielded, hj, hd, h3]
     rw [h4]
     cases c <;> cases want <;> simp at h <;> subst h <;> rfl
    ·next vs hE =>
     have h1 := hR.slots d
     rw [hE] at h1
     have h2 := h1.raw_inv
     cases h
     have h4 : yielded ops a.tmps j = none := by
      have : ((ops[j]?).bind (·.dst)).bind (a.tmps[·]?) = a.tmps[d]? := by simp [hj, hd]
      unfold yielded
      rw [this]
      rw [Array.getD_eq_getD_getElem?] at h2
      cases hq : a.tmps[d]? with
      | none => rfl
      | some u => rw [hq] at h2; simp at h2; rw [h2]
     rw [h4]
     rfl
    ·cases h
theorem run_ok {fp : Nat → FP} {Q : Exit → Act → World → Prop} : ∀ (L : List Nat) {S S' : AS} {β : Nat → HE} {X : Nat → Prop} {a : Act} {w : World}, RunR P (FnOK P) ops hs fp L S S' → Rel S β X a w →
  (∀ a' w' β', Rel S' β' X a' w' → Step S.O S'.O β β' w w' → Q .normal a' w') → wpOps P ops Q L a w
 | [], S, S', β, X, a, w, h, hR, hQ => by
  cases h
  exact hQ a w β hR (Step.refl _ _ _)
 | i :: r, S, S', β, X, a, w, ⟨S1, obs, h1, hob, hr⟩, hR, hQ => by
  unfold stepOp at h1
  simp only [wpOps]
  split at h1
  ·cases h1
  ·next o ho =>
   rw [ho]
   simp only
   split at h1
   ·next hdo =>
    have hd : ∀ d, o.dst = some d → d < S.nt := fun d hd => by rw [hd] at hdo; simpa [dstOK] using hdo
    split at h1
    ·next hrun =>
     rw [wanted_true hR hrun]
     simp only [if_true]
     split at h1
     ·next e he =>
      simp only [Option.some.injEq, Prod.mk.injEq] at h1
      obtain ⟨rfl, rfl, -⟩ := h1
      refine .inl (act_ok hR he hob fun v w' β' hdone => ?_)
      exact run_ok r hr (rel_after hR hd hdone) fun a' w2 β2 hR2 hs2 => hQ a' w2 β2 hR2 (hdone.step.trans hs2)
     ·cases h1
    ·next hrun =>
     rw [wanted_true hR hrun]
     simp only [Bool.false_eq_true, if_false]
     simp only [Option.some.injEq, Prod.mk.injEq] at h1
     obtain ⟨rfl, rfl, -⟩ := h1
     exact run_ok r hr (rel_after (e := ⟨.raw undef, [], []⟩) hR hd ⟨.raw _, hR.objs, Step.refl _ _ _⟩) hQ
    ·cases h1
   ·cases h1

theorem updL_other {O : Nat → Ob} {l : List (Nat × Ob)} {n : Nat} (h : n ∉ l.map (·.1)) : updL O l n = O n := by
 induction l generalizing O with
 | nil => rfl
 | cons p r ih =>
  simp only [List.map_cons, List.mem_cons, not_or] at h
  simp only [updL]
  rw [ih h.2, upd_other _ _ h.1]
theorem updL_congr {O O' : Nat → Ob} {l : List (Nat × Ob)} {n : Nat} (h : n ∈ l.map (·.1)) : updL O l n = updL O' l n := by
 induction l generalizing O O' with
 | nil => simp at h
 | cons p r ih =>
  simp only [updL]
  by_cases hr : n ∈ r.map (·.1)
  ·exact ih hr
  ·rw [updL_other hr, updL_other hr]
   simp only [List.map_cons, List.mem_cons] at h
   rcases h with h | h
   ·subst h; rw [upd_same, upd_same]
   ·exact absurd h hr
theorem updL_comm (O : Nat → Ob) {k l : List (Nat × Ob)} (h : ∀ n ∈ k.map (·.1), n ∉ l.map (·.1)) : updL (updL O k) l = updL (updL O l) k := by
 funext n
 by_cases hk : n ∈ k.map (·.1)
 ·rw [updL_other (h n hk)]; exact updL_congr hk
 ·rw [updL_other (l := k) hk]
  by_cases hl : n ∈ l.map (·.1)
  ·exact updL_congr hl
  ·rw [updL_other hl, updL_other hl, updL_other hk]
theorem putE_comm (E : Nat → AV) {x y : Option Nat} (u v : AV) (h : ∀ d, x = some d → y ≠ some d) : putE (putE E x u) y v = putE (putE E y v) x u := by
 cases x with
 | none => rfl
 | some a =>
  cases y with
  | none => rfl
  | some b =>
   have hab : a ≠ b := fun e => h a rfl (by rw [e])
   funext t
   simp only [putE, upd]
   by_cases h1 : t = b <;> by_cases h2 : t = a <;> simp_all
theorem putE_other {E : Nat → AV} {x : Option Nat} {v : AV} {t : Nat} (h : x ≠ some t) : putE E x v t = E t := by
 cases x with
 | none => rfl
 | some d => exact upd_other _ _ (fun e => h (by rw [e]))
theorem tmps_mem {l : List Operand} {t : Nat} (h : Operand.tmp t ∈ l) : t ∈ tmpsOf l := by
 induction l with
 | nil => cases h
 | cons x r ih =>
  cases h with
  | head => simp [tmpsOf]
  | tail _ h => cases x <;> simp [tmpsOf, ih h]
theorem actOp_congr {h : OH} {o : Oper} {E E' : Operand → AV} {look : Nat → Ob} (he : ∀ x ∈ o.op.operands.toList, E x = E' x) : actOp P F h o E look = actOp P F h o E' look := by
 obtain ⟨dst, op, type, pos, after, guard⟩ := o
 have maps : ∀ l : List Operand, (∀ x ∈ l, E x = E' x) → l.map E = l.map E' := fun l hl => List.map_congr_left hl
 cases op with
 | build t ps =>
  have : (ps.toList.map fun p => (p.1, E p.2)) = (ps.toList.map fun p => (p.1, E' p.2)) := List.map_congr_left fun p hp => by rw [he p.2 (by simp [Op.operands]; exact ⟨p.1, by simpa using hp⟩)]
  simp only [actOp, this]
 | buildSlice t n ps =>
  have : (ps.toList.map fun p => (p.1, E p.2)) = (ps.toList.map fun p => (p.1, E' p.2)) := List.map_congr_left fun p hp => by rw [he p.2 (by simp [Op.operands]; exact ⟨p.1, by simpa using hp⟩)]
  simp only [actOp, this]
 | makeFunc fn first cap =>
  have := maps cap.toList fun x hx => he x (by simp [Op.operands]; exact .inr (by simpa using hx))
  have this2 := maps first.toList fun x hx => he x (by simp [Op.operands]; exact .inl (by simpa using hx))
  cases fn <;> simp only [actOp, this, this2]
 | slice t x lo hi mx =>
  have h0 := he x (by simp [Op.operands])
  have h1 : optE E lo = optE E' lo := by cases lo with | none => rfl | some y => exact congrArg some (he y (by simp [Op.operands]))
  have h2 : optE E hi = optE E' hi := by cases hi with | none => rfl | some y => exact congrArg some (he y (by simp [Op.operands]))
  have h3 : optE E mx = optE E' mx := by cases mx with | none => rfl | some y => exact congrArg some (he y (by simp [Op.operands]))
  simp only [actOp, h0, h1, h2, h3]
 | call c =>
  have ha := maps c.args.toList fun x hx => he x (by simp [Op.operands, Call.operands]; exact .inr (by simpa using hx))
  cases hc : c.callee with
  | builtin b => simp only [actOp, hc, ha]
  | value f =>
   have hf := he f (by simp [Op.operands, Call.operands, hc])
   simp only [actOp, hc, ha, hf]
  | invoke r m => simp only [actOp, hc]
 | _ =>
  simp only [actOp]
  try simp [Op.operands] at he
  try simp only [he]
theorem act_congr {h : OH} {o : Oper} {S S' : AS} (he : ∀ x ∈ o.op.operands.toList, S.ev x = S'.ev x) (ho : ∀ n ∈ opNames h o S.ev, S.O n = S'.O n) :
  act P F h o S.ev S.O = act P F h o S'.ev S'.O ∧ opNames h o S.ev = opNames h o S'.ev := by
 have hn : opNames h o S.ev = opNames h o S'.ev := by
  unfold opNames argNames
  rw [List.map_congr_left he]
 refine ⟨?_, hn⟩
 unfold act
 have hl : narrow (opNames h o S.ev) S.O = narrow (opNames h o S'.ev) S'.O := by
  funext n
  unfold narrow
  rw [← hn]
  split
  ·next hc => exact ho n (by simpa using hc)
  ·rfl
 rw [hl, actOp_congr he]
theorem kind_congr {h : OH} {o : Oper} {E : Operand → AV} {look look' : Nat → Ob} (hk : kindOp o E = true) (hb : ∀ n ∈ argNames o E, isBox (look n) = isBox (look' n)) : actOp P F h o E look = actOp P F h o E look' := by
 have key : ∀ {m : Nat} {e : Option Eff}, isBox (look m) = isBox (look' m) → (match look m with | .box _ => e | _ => none) = (match look' m with | .box _ => e | _ => none) := fun {m e} g => by
  cases h1 : look m <;> cases h2 : look' m <;> rw [h1, h2] at g <;> simp [isBox] at g <;> rfl
 obtain ⟨dst, op, type, pos, after, guard⟩ := o
 unfold kindOp at hk
 unfold argNames at hb
 cases op with
 | nilCheck x =>
  simp only [Op.operands] at hk hb
  split at hk
  ·next m off hx =>
   have := hb m (by simp [hx, AV.namesL, AV.names])
   simp only [actOp, hx]
   exact key this
  ·cases hk
 | fieldAddr T x f =>
  simp only [Op.operands] at hk hb
  split at hk
  ·next m off hx =>
   have := hb m (by simp [hx, AV.namesL, AV.names])
   simp only [actOp, hx, actFieldAddr]
   split
   ·split
    ·split
     ·exact key this
     ·rfl
    ·rfl
   ·rfl
  ·cases hk
 | indexAddr T x i =>
  simp only [Op.operands] at hk hb
  split at hk
  ·next m off hx =>
   have := hb m (by simp [hx, AV.namesL, AV.names])
   simp only [actOp, hx, actIndexAddr]
   split
   ·split
    ·split
     ·rfl
     ·rfl
    ·split
     ·exact key this
     ·rfl
    ·rfl
   ·rfl
  ·cases hk
 | _ => cases hk
theorem act_congr2 {h : OH} {o : Oper} {S S' : AS} (he : ∀ x ∈ o.op.operands.toList, S.ev x = S'.ev x) (ho : ∀ n ∈ seenOf h o S.ev, S.O n = S'.O n) (hb : ∀ n ∈ kindOf o S.ev, isBox (S.O n) = isBox (S'.O n)) :
  act P F h o S.ev S.O = act P F h o S'.ev S'.O ∧ seenOf h o S.ev = seenOf h o S'.ev ∧ kindOf o S.ev = kindOf o S'.ev := by
 have hn : opNames h o S.ev = opNames h o S'.ev := by
  unfold opNames argNames
  rw [List.map_congr_left he]
 have ha : argNames o S.ev = argNames o S'.ev := by unfold argNames; rw [List.map_congr_left he]
 have hk : kindOp o S.ev = kindOp o S'.ev := by
  obtain ⟨dst, op, type, pos, after, guard⟩ := o
  unfold kindOp
  cases op with
  | nilCheck x => simp only; rw [he x (by simp [Op.operands])]
  | fieldAddr T x f => simp only; rw [he x (by simp [Op.operands])]
  | indexAddr T x i => simp only; rw [he x (by simp [Op.operands])]
  | _ => rfl
 refine ⟨?_, by unfold seenOf; rw [hk, hn], by unfold kindOf; rw [hk, ha]⟩
 cases hq : kindOp o S.ev
 ·cases hq2 : blindOp o
  ·exact (act_congr he fun n hm => ho n (by unfold seenOf; rw [hq, hq2]; exact hm)).1
  ·unfold act
   rw [← hn, ← actOp_congr (E := S.ev) (E' := S'.ev) he]
   have : ∀ look look' : Nat → Ob, actOp P F h o S.ev look = actOp P F h o S.ev look' := fun look look' => by
    obtain ⟨dst, op, type, pos, after, guard⟩ := o
    unfold blindOp at hq2
    cases op with
    | move x => simp only [actOp]
    | assign x => simp only [actOp]
    | _ => cases hq2
   rw [this (narrow (opNames h o S.ev) S.O) (narrow (opNames h o S.ev) S'.O)]
 ·unfold act
  rw [← hn, ← actOp_congr (E := S.ev) (E' := S'.ev) he]
  rw [kind_congr (look := narrow (opNames h o S.ev) S.O) (look' := narrow (opNames h o S.ev) S'.O) hq fun n hm => by
   unfold narrow
   split
   ·exact hb n (by unfold kindOf; rw [hq]; exact hm)
   ·rfl]
def FP.apart (x y : FP) : Bool :=
 (match x.dst with | some d => !y.rd.contains d && y.dst != some d | none => true) &&
 (match y.dst with | some d => !x.rd.contains d | none => true) &&
 x.wr.all (fun n => !y.seen.contains n && !y.wr.contains n && (!y.kind.contains n || x.wrb.contains n)) && y.wr.all (fun n => !x.seen.contains n && (!x.kind.contains n || y.wrb.contains n))
theorem FP.apart_spec {x y : FP} (h : x.apart y = true) : (∀ d, x.dst = some d → d ∉ y.rd ∧ y.dst ≠ some d) ∧ (∀ d, y.dst = some d → d ∉ x.rd) ∧ (∀ n ∈ x.wr, (n ∉ y.seen ∧ n ∉ y.wr) ∧ (n ∈ y.kind → n ∈ x.wrb)) ∧ ∀ n ∈ y.wr, n ∉ x.seen ∧ (n ∈ x.kind → n ∈ y.wrb) := by
 unfold FP.apart at h
 simp only [Bool.and_eq_true] at h
 obtain ⟨⟨⟨h1, h2⟩, h3⟩, h4⟩ := h
 refine ⟨fun d hd => ?_, fun d hd => ?_, fun n hn => ?_, fun n hn => ?_⟩
 ·rw [hd] at h1; simpa using h1
 ·rw [hd] at h2; simpa using h2
 ·have := List.all_eq_true.1 h3 n hn
  simp only [Bool.and_eq_true, Bool.or_eq_true, Bool.not_eq_true', List.contains_eq_mem, decide_eq_false_iff_not, decide_eq_true_eq] at this
  exact ⟨this.1, fun hk => this.2.resolve_left (fun g => g hk)⟩
 ·have := List.all_eq_true.1 h4 n hn
  simp only [Bool.and_eq_true, Bool.or_eq_true, Bool.not_eq_true', List.contains_eq_mem, decide_eq_false_iff_not, decide_eq_true_eq] at this
  exact ⟨this.1, fun hk => this.2.resolve_left (fun g => g hk)⟩
theorem guard_mem {o : Oper} {d : Nat} {j : Nat} {want : Bool} {oj : Oper} (hg : o.guard = some (j, want)) (hj : ops[j]? = some oj) (hd : oj.dst = some d) : d ∈ guardSlot ops o := by
 simp [guardSlot, hg, hj, hd]
theorem runs_congr {o : Oper} {E E' : Nat → AV} (h : ∀ d ∈ guardSlot ops o, E d = E' d) : runs ops o E = runs ops o E' := by
 unfold runs
 cases hg : o.guard with
 | none => rfl
 | some g =>
  obtain ⟨j, want⟩ := g
  simp only
  cases hj : ops[j]? with
  | none => rfl
  | some oj =>
   simp only
   cases hd : oj.dst with
   | none => rfl
   | some d =>
    simp only
    rw [h d (guard_mem hg hj hd)]
theorem wrbOf_congr {O O' : Nat → Ob} {l : List (Nat × Ob)} (h : ∀ n ∈ l.map (·.1), O n = O' n) : wrbOf O l = wrbOf O' l := by
 have e : (l.filter fun p => isBox (O p.1) && isBox p.2) = l.filter fun p => isBox (O' p.1) && isBox p.2 := List.filter_congr fun p hp => by rw [h p.1 (List.mem_map_of_mem hp)]
 unfold wrbOf
 rw [e]
/-- Cells that were written are cells. -/
theorem wrb_box {O : Nat → Ob} {n : Nat} : ∀ {l : List (Nat × Ob)}, n ∈ wrbOf O l → isBox (O n) = true ∧ isBox (updL O l n) = true := by
 intro l hn
 unfold wrbOf at hn
 split at hn
 case isFalse => cases hn
 next hd =>
 obtain ⟨p, hp, rfl⟩ := List.mem_map.1 hn
 obtain ⟨hp1, hp2⟩ := List.mem_filter.1 hp
 rw [Bool.and_eq_true] at hp2
 refine ⟨hp2.1, ?_⟩
 have key : ∀ (l : List (Nat × Ob)) (O : Nat → Ob), p ∈ l → (l.map (·.1)).Nodup → updL O l p.1 = p.2 := by
  intro l
  induction l with
  | nil => intro O h; cases h
  | cons q r ih =>
   intro O hm hd
   rw [List.map_cons, List.nodup_cons] at hd
   rcases List.mem_cons.1 hm with rfl | hm
   ·show updL (upd O p.1 p.2) r p.1 = _
    rw [updL_other hd.1, upd_same]
   ·exact ih _ hm hd.2
 rw [key l O hp1 hd]
 exact hp2.2
/-- What a step depends on. -/
theorem stepOp_local {i : Nat} {S S' S1 : AS} {obs : List Prop} {f : FP} (h : stepOp P F ops hs i S = some (S1, obs, f)) (hnt : S'.nt = S.nt) (hrd : ∀ t ∈ f.rd, S'.E t = S.E t) (hseen : ∀ n ∈ f.seen, S'.O n = S.O n)
  (hkind : ∀ n ∈ f.kind, isBox (S'.O n) = isBox (S.O n)) (hwr : ∀ n ∈ f.wr, S'.O n = S.O n) :
  ∃ (v : AV) (wr : List (Nat × Ob)), f.wr = wr.map (·.1) ∧ f.wrb = wrbOf S.O wr ∧ S1 = { S with E := putE S.E f.dst v, O := updL S.O wr } ∧
   stepOp P F ops hs i S' = some ({ S' with E := putE S'.E f.dst v, O := updL S'.O wr }, obs, f) := by
 unfold stepOp at h ⊢
 split at h
 ·cases h
 ·next o ho =>
  have hdok : dstOK S' o.dst = dstOK S o.dst := by simp [dstOK, hnt]
  rw [hdok]
  split at h
  ·next hd =>
   rw [if_pos hd]
   split at h
   ·next hrun =>
    split at h
    ·next e he =>
     simp only [Option.some.injEq, Prod.mk.injEq] at h
     obtain ⟨rfl, rfl, rfl⟩ := h
     simp only at hrd hseen hkind hwr
     have hev : ∀ x ∈ o.op.operands.toList, S.ev x = S'.ev x := fun x hx => by
      cases x with
      | tmp t => exact (hrd t (List.mem_append_left _ (tmps_mem hx))).symm
      | _ => rfl
     obtain ⟨h1, h2, h4⟩ := act_congr2 (P := P) (F := F) (h := hintAt hs i) hev (fun n hn => (hseen n hn).symm) (fun n hn => (hkind n hn).symm)
     have h3 : runs ops o S'.E = runs ops o S.E := runs_congr fun d hd => hrd d (List.mem_append_right _ hd)
     rw [h3, hrun, ← h1, he, ← h2, ← h4]
     refine ⟨e.val, e.wr, rfl, rfl, rfl, ?_⟩
     simp only [wrbOf_congr (O := S'.O) (O' := S.O) hwr]
    ·cases h
   ·next hrun =>
    simp only [Option.some.injEq, Prod.mk.injEq] at h
    obtain ⟨rfl, rfl, rfl⟩ := h
    simp only at hrd
    have h3 : runs ops o S'.E = runs ops o S.E := runs_congr hrd
    rw [h3, hrun]
    exact ⟨.raw undef, [], rfl, rfl, rfl, rfl⟩
   ·cases h
  ·cases h
theorem swap_ok {fp : Nat → FP} {i j : Nat} {L : List Nat} {S S' : AS} (hap : (fp i).apart (fp j) = true) (h : RunR P F ops hs fp (i :: j :: L) S S') : RunR P F ops hs fp (j :: i :: L) S S' := by
 obtain ⟨S1, ob1, h1, hp1, S2, ob2, h2, hp2, hr⟩ := h
 obtain ⟨a1, a2, a3, a4⟩ := FP.apart_spec hap
 obtain ⟨v, wr, hw, hwb, rfl, -⟩ := stepOp_local h1 rfl (fun _ _ => rfl) (fun _ _ => rfl) (fun _ _ => rfl) (fun _ _ => rfl)
 obtain ⟨u, wr2, hw2, hwb2, rfl, k2⟩ := stepOp_local (S' := S) h2 rfl
  (fun t ht => (putE_other (fun e => (a1 t e).1 ht)).symm)
  (fun n hn => (updL_other (fun hm => (a3 n (by rw [hw]; exact hm)).1.1 hn)).symm)
  (fun n hn => by
   by_cases hm : n ∈ wr.map (·.1)
   ·have := (a3 n (by rw [hw]; exact hm)).2 hn
    rw [hwb] at this
    obtain ⟨g1, g2⟩ := wrb_box this
    show isBox (S.O n) = isBox (updL S.O wr n)
    rw [g1, g2]
   ·show isBox (S.O n) = isBox (updL S.O wr n)
    rw [updL_other hm])
  (fun n hn => (updL_other (fun hm => (a3 n (by rw [hw]; exact hm)).1.2 hn)).symm)
 have hwb2' : (fp j).wrb = wrbOf S.O wr2 := by
  rw [hwb2]
  exact wrbOf_congr fun n hn => updL_other (fun hm => (a3 n (by rw [hw]; exact hm)).1.2 (by rw [hw2]; exact hn))
 obtain ⟨v', wr', hw', -, heq, k1⟩ := stepOp_local (S' := { S with E := putE S.E (fp j).dst u, O := updL S.O wr2 }) h1 rfl
  (fun t ht => putE_other (fun e => a2 t e ht))
  (fun n hn => updL_other (fun hm => (a4 n (by rw [hw2]; exact hm)).1 hn))
  (fun n hn => by
   by_cases hm : n ∈ wr2.map (·.1)
   ·have := (a4 n (by rw [hw2]; exact hm)).2 hn
    rw [hwb2'] at this
    obtain ⟨g1, g2⟩ := wrb_box this
    show isBox (updL S.O wr2 n) = isBox (S.O n)
    rw [g1, g2]
   ·show isBox (updL S.O wr2 n) = isBox (S.O n)
    rw [updL_other hm])
  (fun n hn => updL_other (fun hm => (a3 n hn).1.2 (by rw [hw2]; exact hm)))
 refine ⟨_, ob2, k2, hp2, _, ob1, k1, hp1, ?_⟩
 have e1 : putE (putE S.E (fp j).dst u) (fp i).dst v' = putE (putE S.E (fp i).dst v) (fp j).dst u := by
  rw [putE_comm _ _ _ (fun d hd hd2 => (a1 d hd2).2 hd)]
  have : putE S.E (fp i).dst v' = putE S.E (fp i).dst v := (congrArg AS.E heq).symm
  rw [this]
 have e2 : updL (updL S.O wr2) wr' = updL (updL S.O wr) wr2 := by
  rw [updL_comm _ (fun n hn hm => (a3 n (by rw [hw']; exact hm)).1.2 (by rw [hw2]; exact hn))]
  have : updL S.O wr' = updL S.O wr := (congrArg AS.O heq).symm
  rw [this]
 rw [show ({ ({ S with E := putE S.E (fp j).dst u, O := updL S.O wr2 } : AS) with E := putE (putE S.E (fp j).dst u) (fp i).dst v', O := updL (updL S.O wr2) wr' } : AS) =
  { ({ S with E := putE S.E (fp i).dst v, O := updL S.O wr } : AS) with E := putE (putE S.E (fp i).dst v) (fp j).dst u, O := updL (updL S.O wr) wr2 } by rw [e1, e2]]
 exact hr
end
end Sx
end Go.Proofs.YtalpfhpeaaocmaaGreat
end
section
namespace Go.Proofs.YtalpfhpeaaocmaaGreat
namespace Sx
open Go.RowKit
section
variable {P : Program} {F : FnRel} {ops : Array Oper} {hs : List (Nat × OH)}
/-- `i` stands ahead of `j`. -/
def Bef (L : List Nat) (i j : Nat) : Prop := ∃ A B C, L = A ++ i :: (B ++ j :: C)
theorem Bef.cons {L : List Nat} {i j x : Nat} (h : Bef L i j) : Bef (x :: L) i j := by
 obtain ⟨A, B, C, rfl⟩ := h
 exact ⟨x :: A, B, C, rfl⟩
theorem Bef.head {L : List Nat} {x j : Nat} (h : j ∈ L) : Bef (x :: L) x j := by
 obtain ⟨B, C, rfl⟩ := List.append_of_mem h
 exact ⟨[], B, C, rfl⟩
theorem Bef.mem {L : List Nat} {i j : Nat} (h : Bef L i j) : i ∈ L ∧ j ∈ L := by
 obtain ⟨A, B, C, rfl⟩ := h; simp
theorem Bef.left {A B : List Nat} {i j : Nat} (hi : i ∈ A) (hj : j ∈ B) : Bef (A ++ B) i j := by
 obtain ⟨A1, A2, rfl⟩ := List.append_of_mem hi
 obtain ⟨B1, B2, rfl⟩ := List.append_of_mem hj
 exact ⟨A1, A2 ++ B1, B2, by simp⟩
theorem Bef.insert {A B : List Nat} {i j x : Nat} (h : Bef (A ++ B) i j) : Bef (A ++ x :: B) i j := by
 induction A with
 | nil => exact h.cons
 | cons a r ih =>
  obtain ⟨A', B', C', he⟩ := h
  cases A' with
  | nil =>
   simp only [List.nil_append, List.cons_append, List.cons.injEq] at he
   obtain ⟨rfl, he⟩ := he
   refine Bef.head ?_
   have : j ∈ r ++ B := by rw [he]; simp
   rcases List.mem_append.1 this with h | h <;> simp [h]
  | cons a' A'' =>
   simp only [List.cons_append, List.cons.injEq] at he
   exact (ih ⟨A'', B', C', he.2⟩).cons
theorem bubble {fp : Nat → FP} {x : Nat} {B : List Nat} : ∀ (A : List Nat) {S S' : AS}, (∀ a ∈ A, (fp a).apart (fp x) = true) → RunR P F ops hs fp (A ++ x :: B) S S' → RunR P F ops hs fp (x :: (A ++ B)) S S'
 | [], _, _, _, h => h
 | a :: A, S, S', hap, h => by
  obtain ⟨S1, ob1, h1, hp1, hr⟩ := h
  exact swap_ok (hap a (by simp)) ⟨S1, ob1, h1, hp1, bubble A (fun b hb => hap b (by simp [hb])) hr⟩
theorem reorder {fp : Nat → FP} : ∀ (π L : List Nat) {S S' : AS}, π.Perm L → (∀ i j, Bef L i j → Bef π j i → (fp i).apart (fp j) = true) → RunR P F ops hs fp L S S' → RunR P F ops hs fp π S S'
 | [], L, S, S', hp, _, h => by rw [List.nil_perm.1 hp] at h; exact h
 | x :: π, L, S, S', hp, hap, h => by
  have hx : x ∈ L := hp.subset (by simp)
  obtain ⟨A, B, rfl⟩ := List.append_of_mem hx
  have hp' : π.Perm (A ++ B) := by
   have := hp.trans (List.perm_middle (l₁ := A) (l₂ := B) (a := x))
   exact List.Perm.cons_inv this
  obtain ⟨S1, ob1, h1, hp1, hr⟩ := bubble A (fun a ha => by
   refine hap a x (Bef.left ha (by simp)) (Bef.head ?_)
   exact hp'.symm.subset (by simp [ha])) h
  exact ⟨S1, ob1, h1, hp1, reorder π (A ++ B) hp' (fun i j hi hj => hap i j hi.insert hj.cons) hr⟩

def direct (ops : Array Oper) (i j : Nat) : Prop := ∃ o e, ops[j]? = some o ∧ e ∈ o.after ∧ Region.binds .any e = true ∧ e.on = i
inductive Anc (ops : Array Oper) : Nat → Nat → Prop
 | one {i j : Nat} (h : direct ops i j) : Anc ops i j
 | step {i k j : Nat} (h : Anc ops i k) (r : direct ops k j) : Anc ops i j
/-- Every edge leads back in the text. -/
def edgesBack (ops : Array Oper) : Bool := ops.toList.zipIdx.all fun (o, i) => o.after.toList.all fun e => !Region.binds .any e || decide (e.on < i)
theorem edgesBack_spec (h : edgesBack ops = true) {i j : Nat} (hd : direct ops i j) : i < j := by
 obtain ⟨o, e, ho, he, hb, rfl⟩ := hd
 have h1 : (o, j) ∈ ops.toList.zipIdx := by
  rw [List.mem_iff_getElem?]
  exact ⟨j, by rw [List.getElem?_zipIdx, Array.getElem?_toList, ho]; simp⟩
 have := List.all_eq_true.1 (List.all_eq_true.1 h _ h1) e (by simpa using he)
 simpa [hb] using this
/-- A list in which whatever an operation waits for stands ahead of it. -/
def Sorted' (ops : Array Oper) (acc L : List Nat) : Prop := ∀ A j B, L = A ++ j :: B → ∀ i, direct ops i j → i ∈ acc ∨ i ∈ A
theorem mem_ready' {listed : Array Bool} {j : Nat} (hj : j ∈ Region.ready .any ops listed) : listed.getD j true = false ∧ j < ops.size ∧ ∀ i, direct ops i j → listed.getD i false = true := by
 obtain ⟨h1, o, ho, h2⟩ := mem_ready.1 hj
 refine ⟨h1, (Array.getElem?_eq_some_iff.1 ho).1, fun i hd => ?_⟩
 obtain ⟨o', e, ho', he, hb, rfl⟩ := hd
 rw [ho] at ho'
 cases ho'
 exact h2 e he hb
theorem getD_set {listed : Array Bool} {i j : Nat} {d : Bool} (hi : i < listed.size) : (listed.setIfInBounds i true).getD j d = if i = j then true else listed.getD j d := by
 simp only [Array.getD_eq_getD_getElem?, Array.getElem?_setIfInBounds]
 by_cases h : i = j
 ·subst h; simp [hi]
 ·simp [h]
theorem go_spec (hback : edgesBack ops = true) : ∀ (fuel t : Nat) (listed : Array Bool) (acc : List Nat), listed.size = ops.size → (∀ i, i < ops.size → (listed.getD i false = true ↔ i ∈ acc)) → acc.Nodup → (∀ i ∈ acc, i < ops.size) → ops.size ≤ fuel + acc.length →
  (acc ++ Region.linearise.go .any ops fuel t listed []).Perm (List.range ops.size) ∧ Sorted' ops acc (Region.linearise.go .any ops fuel t listed []) := by
 intro fuel
 induction fuel with
 | zero =>
  intro t listed acc hsz hl hnd hlt hfuel
  simp only [Region.linearise.go, List.reverse_nil, List.append_nil]
  refine ⟨?_, fun A j B h => by simp at h⟩
  rw [List.perm_ext_iff_of_nodup hnd List.nodup_range]
  refine fun n => ⟨fun hn => List.mem_range.2 (hlt n hn), fun hn => ?_⟩
  by_cases hm : n ∈ acc
  ·exact hm
  ·exfalso
   have h1 : (n :: acc).Nodup := List.nodup_cons.2 ⟨hm, hnd⟩
   have h2 : (n :: acc) ⊆ List.range ops.size := fun x hx => by
    rcases List.mem_cons.1 hx with h | h
    ·rw [h]; exact hn
    ·exact List.mem_range.2 (hlt x h)
   have h3 := h1.length_le_of_subset h2
   simp at h3 hfuel
   omega
 | succ fuel ih =>
  intro t listed acc hsz hl hnd hlt hfuel
  simp only [Region.linearise.go]
  change (acc ++ (match (Region.ready .any ops listed)[t % (Region.ready .any ops listed).length]? with
   | some i => Region.linearise.go .any ops fuel (t / (Region.ready .any ops listed).length) (listed.setIfInBounds i true) [i]
   | none => [].reverse)).Perm _ ∧ Sorted' ops acc (match (Region.ready .any ops listed)[t % (Region.ready .any ops listed).length]? with
   | some i => Region.linearise.go .any ops fuel (t / (Region.ready .any ops listed).length) (listed.setIfInBounds i true) [i]
   | none => [].reverse)
  cases hi : (Region.ready .any ops listed)[t % (Region.ready .any ops listed).length]? with
  | none =>
   simp only [List.reverse_nil, List.append_nil]
   refine ⟨?_, fun A j B h => by simp at h⟩
   have hnil : Region.ready .any ops listed = [] := by
    cases hr : Region.ready .any ops listed with
    | nil => rfl
    | cons x xs =>
     rw [hr] at hi
     have hlt : t % (x :: xs).length < (x :: xs).length := Nat.mod_lt _ (by simp)
     simp at hi
     simp at hlt
     omega
   have hall : ∀ n, n < ops.size → n ∈ acc := by
    intro n
    induction n using Nat.strongRecOn with
    | ind n ihn =>
     intro hn
     by_cases hm : n ∈ acc
     ·exact hm
     ·exfalso
      have hf : listed.getD n false = false := by
       cases hq : listed.getD n false with
       | false => rfl
       | true => exact absurd ((hl n hn).1 hq) hm
      have hf2 : listed.getD n true = false := by
       rw [Array.getD_eq_getD_getElem?] at hf ⊢
       rw [Array.getElem?_eq_getElem (by omega)] at hf ⊢
       simpa using hf
      have : n ∈ Region.ready .any ops listed := by
       rw [mem_ready]
       refine ⟨hf2, ops[n], by simp [hn], fun e he hb => ?_⟩
       have hd : direct ops e.on n := ⟨ops[n], e, by simp [hn], he, hb, rfl⟩
       have hlt' := edgesBack_spec hback hd
       exact (hl e.on (by omega)).2 (ihn e.on hlt' (by omega))
      rw [hnil] at this
      cases this
   rw [List.perm_ext_iff_of_nodup hnd List.nodup_range]
   exact fun n => ⟨fun hn => List.mem_range.2 (hlt n hn), fun hn => hall n (List.mem_range.1 hn)⟩
  | some i =>
   have hir := List.mem_of_getElem? hi
   obtain ⟨k1, k2, k3⟩ := mem_ready' hir
   have hia : i ∉ acc := fun hm => by
    have := (hl i k2).2 hm
    rw [Array.getD_eq_getD_getElem?] at this k1
    rw [Array.getElem?_eq_getElem (by omega)] at this k1
    simp at this k1
    rw [this] at k1
    cases k1
   simp only
   rw [linearise_go_acc, List.reverse_singleton, List.singleton_append]
   obtain ⟨h1, h2⟩ := ih (t / (Region.ready .any ops listed).length) (listed.setIfInBounds i true) (acc ++ [i]) (by simpa using hsz)
    (fun j hj => by
     rw [getD_set (by omega)]
     by_cases hij : i = j
     ·simp [hij]
     ·rw [if_neg hij, hl j hj]; simp [Ne.symm hij])
    (by rw [List.nodup_append]; exact ⟨hnd, by simp, fun a ha b hb => by rw [List.mem_singleton.1 hb]; exact fun e => hia (e ▸ ha)⟩)
    (fun j hj => by
     rcases List.mem_append.1 hj with h | h
     ·exact hlt j h
     ·rw [List.mem_singleton.1 h]; exact k2)
    (by simp; omega)
   refine ⟨by simpa using h1, fun A j B he a ha => ?_⟩
   cases A with
   | nil =>
    simp only [List.nil_append, List.cons.injEq] at he
    obtain ⟨rfl, -⟩ := he
    have hlt' := edgesBack_spec hback ha
    exact .inl ((hl a (by omega)).1 (k3 a ha))
   | cons b A' =>
    simp only [List.cons_append, List.cons.injEq] at he
    obtain ⟨rfl, he⟩ := he
    rcases h2 A' j B he a ha with h | h
    ·rcases List.mem_append.1 h with h | h
     ·exact .inl h
     ·exact .inr (by rw [List.mem_singleton.1 h]; simp)
    ·exact .inr (by simp [h])
theorem linearise_spec (hback : edgesBack ops = true) (t : Nat) : (Region.linearise .any ops t).Perm (List.range ops.size) ∧ Sorted' ops [] (Region.linearise .any ops t) := by
 have := go_spec hback ops.size t (Array.replicate ops.size false) [] (by simp) (fun i hi => by simp [Array.getD_eq_getD_getElem?, hi]) List.nodup_nil (by simp) (by simp)
 simpa [Region.linearise] using this
theorem split_eq {k : Nat} : ∀ {A C B D : List Nat}, A ++ k :: B = C ++ k :: D → k ∉ A → k ∉ C → A = C
 | [], [], _, _, _, _, _ => rfl
 | [], c :: C, _, _, h, _, hc => by
  simp only [List.nil_append, List.cons_append, List.cons.injEq] at h
  exact absurd (by simp [h.1]) hc
 | a :: A, [], _, _, h, ha, _ => by
  simp only [List.nil_append, List.cons_append, List.cons.injEq] at h
  exact absurd (by simp [h.1]) ha
 | a :: A, c :: C, _, _, h, ha, hc => by
  simp only [List.cons_append, List.cons.injEq] at h
  rw [h.1, split_eq h.2 (fun hm => ha (by simp [hm])) (fun hm => hc (by simp [hm]))]
theorem anc_before {π : List Nat} (hs : Sorted' ops [] π) (hnd : π.Nodup) {i j : Nat} (h : Anc ops i j) : j ∈ π → Bef π i j := by
 induction h with
 | @one j hd =>
  intro hj
  obtain ⟨A, B, rfl⟩ := List.append_of_mem hj
  rcases hs A j B rfl _ hd with h | h
  ·cases h
  ·obtain ⟨A1, A2, rfl⟩ := List.append_of_mem h
   exact ⟨A1, A2, B, by simp⟩
 | @step k j _ hd ih =>
  intro hj
  obtain ⟨A, B, rfl⟩ := List.append_of_mem hj
  rcases hs A j B rfl _ hd with h | h
  ·cases h
  ·obtain ⟨A1, B1, C1, he⟩ := ih (by simp [h])
   
   have hkA : k ∈ A := h
   obtain ⟨A2, A3, rfl⟩ := List.append_of_mem hkA
   have hkeq : A1 ++ i :: B1 = A2 := by
    have e1 : (A1 ++ i :: B1) ++ k :: C1 = A2 ++ k :: (A3 ++ j :: B) := by simpa using he.symm
    have hnd2 : ((A1 ++ i :: B1) ++ k :: C1).Nodup := by rw [e1]; simpa using hnd
    have hnd3 : (A2 ++ k :: (A3 ++ j :: B)).Nodup := by simpa using hnd
    have n1 : k ∉ A1 ++ i :: B1 := fun hm => by
     rw [List.nodup_append] at hnd2
     exact hnd2.2.2 k hm k (by simp) rfl
    have n2 : k ∉ A2 := fun hm => by
     rw [List.nodup_append] at hnd3
     exact hnd3.2.2 k hm k (by simp) rfl
    exact split_eq e1 n1 n2
   subst hkeq
   exact ⟨A1, B1 ++ k :: A3, B, by simp⟩

def maskOf (acc : List Nat) : List Edge → Nat
 | [] => 0
 | e :: r => if Region.binds .any e then (maskOf acc r ||| 2 ^ e.on) ||| acc.getD e.on 0 else maskOf acc r
def masks : List Oper → List Nat → List Nat
 | [], acc => acc
 | o :: r, acc => masks r (acc ++ [maskOf acc o.after.toList])
theorem maskOf_spec {acc : List Nat} {j : Nat} {o : Oper} (ho : ops[j]? = some o) (hacc : ∀ k i, (acc.getD k 0).testBit i = true → Anc ops i k) :
  ∀ (l : List Edge), (∀ e ∈ l, e ∈ o.after) → ∀ i, (maskOf acc l).testBit i = true → Anc ops i j
 | [], _, i, h => by simp [maskOf] at h
 | e :: r, hl, i, h => by
  unfold maskOf at h
  split at h
  ·next hb =>
   have hd : direct ops e.on j := ⟨o, e, ho, hl e (by simp), hb, rfl⟩
   rw [Nat.testBit_or, Nat.testBit_or] at h
   simp only [Bool.or_eq_true] at h
   rcases h with (h | h) | h
   ·exact maskOf_spec ho hacc r (fun e he => hl e (by simp [he])) i h
   ·rw [Nat.testBit_two_pow] at h
    have : e.on = i := by simpa using h
    rw [← this]
    exact .one hd
   ·exact .step (hacc e.on i h) hd
  ·exact maskOf_spec ho hacc r (fun e he => hl e (by simp [he])) i h
theorem masks_spec : ∀ (l : List Oper) (acc : List Nat), (∀ k o, l[k]? = some o → ops[acc.length + k]? = some o) → (∀ k i, (acc.getD k 0).testBit i = true → Anc ops i k) → ∀ k i, ((masks l acc).getD k 0).testBit i = true → Anc ops i k
 | [], acc, _, hacc => hacc
 | o :: r, acc, hl, hacc => by
  refine masks_spec r (acc ++ [maskOf acc o.after.toList]) (fun k x hx => ?_) (fun k i h => ?_)
  ·have := hl (k + 1) x (by simpa using hx)
   simpa [Nat.add_assoc, Nat.add_comm 1 k] using this
  ·rw [List.getD_eq_getElem?_getD] at h
   by_cases hk : k < acc.length
   ·rw [List.getElem?_append_left hk, ← List.getD_eq_getElem?_getD] at h
    exact hacc k i h
   ·rw [List.getElem?_append_right (by omega)] at h
    by_cases hk2 : k = acc.length
    ·subst hk2
     simp only [Nat.sub_self, List.getElem?_cons_zero, Option.getD_some] at h
     have ho := hl 0 o rfl
     exact maskOf_spec ho hacc _ (fun e he => by simpa using he) i h
    ·have : ([maskOf acc o.after.toList] : List Nat)[k - acc.length]? = none := by
      rw [List.getElem?_eq_none_iff]; simp; omega
     rw [this] at h
     simp at h
instance : Inhabited FP := ⟨⟨[], none, [], [], [], []⟩⟩
def pairsOK (ops : Array Oper) (fps : List FP) : Bool :=
 let ms := masks ops.toList []
 (List.range ops.size).all fun j => (List.range j).all fun i => (ms.getD j 0).testBit i || (fps.getD i default).apart (fps.getD j default)
/-- The operations in the order of the text. -/
def runT (P : Program) (F : FnRel) (ops : Array Oper) (hs : List (Nat × OH)) : List Nat → AS → Option (AS × List Prop × List FP)
 | [], S => some (S, [], [])
 | i :: r, S =>
  match stepOp P F ops hs i S with
  | some (S1, ob, f) =>
   match runT P F ops hs r S1 with
   | some (S2, obs, fs) => some (S2, ob ++ obs, f :: fs)
   | none => none
  | none => none
theorem runT_ok : ∀ (n k : Nat) {S S' : AS} {obs : List Prop} {fs : List FP} (fp : Nat → FP), runT P F ops hs (List.range' k n) S = some (S', obs, fs) → (∀ p ∈ obs, p) → (∀ i, i < n → fp (k + i) = fs.getD i default) →
  RunR P F ops hs fp (List.range' k n) S S'
 | 0, k, S, S', obs, fs, fp, h, _, _ => by simp only [List.range'_zero, runT] at h; cases h; rfl
 | n + 1, k, S, S', obs, fs, fp, h, hob, hfp => by
  rw [List.range'_succ] at h ⊢
  unfold runT at h
  split at h
  ·next S1 ob f h1 =>
   split at h
   ·next S2 obs2 fs2 h2 =>
    simp only [Option.some.injEq, Prod.mk.injEq] at h
    obtain ⟨rfl, rfl, rfl⟩ := h
    refine ⟨S1, ob, ?_, fun p hp => hob p (by simp [hp]), runT_ok n (k + 1) fp h2 (fun p hp => hob p (by simp [hp])) fun i hi => ?_⟩
    ·have := hfp 0 (by omega)
     simp at this
     rw [this]; exact h1
    ·have := hfp (i + 1) (by omega)
     rw [show k + 1 + i = k + (i + 1) by omega, this]
     simp [List.getD_eq_getElem?_getD]
   ·cases h
  ·cases h
def regEv (P : Program) (F : FnRel) (ops : Array Oper) (draw : Bool) (hs : List (Nat × OH)) (S : AS) : Option (AS × List Prop) :=
 match runT P F ops hs (List.range ops.size) S with
 | some (S', obs, fps) => if !draw || (P.follows .mixedOrders && edgesBack ops && pairsOK ops fps) then some (S', obs) else none
 | none => none
theorem region_ok {id : Nat} {draw : Bool} {S S' : AS} {obs : List Prop} {β : Nat → HE} {X : Nat → Prop} {a : Act} {w : World} {Q : Exit → Act → World → Prop} (h : regEv P (FnOK P) ops draw hs S = some (S', obs)) (hob : ∀ p ∈ obs, p) (hR : Rel S β X a w)
  (hQ : ∀ a' w' β', Rel S' β' X a' w' → Step S.O S'.O β β' w w' → Q .normal a' w') : (Code.region id ops draw).wp P Q a w := by
 unfold regEv at h
 split at h
 ·next S2 obs2 fps h1 =>
  split at h
  ·next hc =>
   cases h
   rw [List.range_eq_range'] at h1
   have hrun := runT_ok ops.size 0 (fun i => fps.getD i default) h1 hob (fun i hi => by simp)
   cases draw with
   | false =>
    refine wp_region ?_
    rw [List.range_eq_range']
    exact run_ok _ hrun hR hQ
   | true =>
    simp only [Bool.not_true, Bool.false_or, Bool.and_eq_true] at hc
    obtain ⟨⟨hm, hback⟩, hpairs⟩ := hc
    refine wp_region_draw fun t => ?_
    have hs : Region.schedule (P.follows .mixedOrders) ops t = Region.linearise .any ops t := by simp [Region.schedule, hm]
    rw [hs]
    obtain ⟨hp, hsort⟩ := linearise_spec hback t
    rw [← List.range_eq_range'] at hrun
    have hnd : (Region.linearise .any ops t).Nodup := hp.symm.nodup List.nodup_range
    have hrun2 := reorder _ _ hp (fun i j hij hji => by
     obtain ⟨hi, hj⟩ := hij.mem
     have hlt : i < j := by
      obtain ⟨A, B, C, he⟩ := hij
      have hsorted : (A ++ i :: (B ++ j :: C)).Pairwise (· < ·) := by rw [← he]; exact List.pairwise_lt_range
      rw [List.pairwise_append] at hsorted
      have := hsorted.2.1
      rw [List.pairwise_cons] at this
      exact this.1 j (by simp)
     have := List.all_eq_true.1 (List.all_eq_true.1 hpairs j hj) i (List.mem_range.2 hlt)
     simp only [Bool.or_eq_true] at this
     rcases this with h | h
     ·exfalso
      have hanc := masks_spec (ops := ops) ops.toList [] (fun k o hk => by simpa using hk) (fun k i h => by simp at h) j i h
      have hb := anc_before hsort hnd hanc hji.mem.1
      
      obtain ⟨A, B, C, he⟩ := hb
      obtain ⟨A2, B2, C2, he2⟩ := hji
      rw [he] at hnd he2
      have e1 : A ++ i :: (B ++ j :: C) = (A2 ++ j :: B2) ++ i :: C2 := by simpa using he2
      have n1 : i ∉ A := fun hm => by rw [List.nodup_append] at hnd; exact hnd.2.2 i hm i (by simp) rfl
      have hnd2 : ((A2 ++ j :: B2) ++ i :: C2).Nodup := by rw [← e1]; exact hnd
      have n2 : i ∉ A2 ++ j :: B2 := fun hm => by rw [List.nodup_append] at hnd2; exact hnd2.2.2 i hm i (by simp) rfl
      have e2 := split_eq e1 n1 n2
      rw [e2, List.nodup_append] at hnd
      exact hnd.2.2 j (by simp) j (by simp) rfl
     ·exact h) hrun
    exact run_ok (w := { w with drawn := w.drawn + 1 }) _ hrun2 ⟨hR.size, hR.defers, fun t => (hR.slots t).mono (T := fun _ => False) ((Evo.refl _ w).drew) (fun _ h => h.elim) (fun b hb => .inl hb) (fun o ho => ⟨ho, .inl rfl⟩),
     ⟨fun o => (hR.objs.rel o).mono (T := fun _ => False) ((Evo.refl _ w).drew) (fun _ h => h.elim) (fun b hb => .inl hb) (fun o ho => ⟨ho, .inl rfl⟩) (fun _ _ => rfl), hR.objs.inj, hR.objs.priv, hR.objs.xlt⟩⟩
     fun a' w' β' hR' hst => hQ a' w' β' hR' ⟨⟨hst.evo.os, hst.evo.tape, hst.evo.output, hst.evo.size, hst.evo.block⟩, hst.keep, hst.new⟩
  ·cases h
 ·cases h
end
end Sx
end Go.Proofs.YtalpfhpeaaocmaaGreat
end
section
namespace Go.Proofs.YtalpfhpeaaocmaaGreat
namespace Sx
open Go.RowKit
/-- What has become of memory; the first `k` objects are those that came in. -/
structure StepK (k : Nat) (O O' : Nat → Ob) (β β' : Nat → HE) (w w' : World) : Prop where
 evo : Evo (Tset β) w w'
 keep : ∀ o, o < k → O o ≠ .none → O' o ≠ .none ∧ (β' o = β o ∨ β' o = .gone)
 new : ∀ b, Tset β' b → Tset β b ∨ w.heap.size ≤ b
theorem Step.toK {O O' : Nat → Ob} {β β' : Nat → HE} {w w' : World} (h : Step O O' β β' w w') (k : Nat) : StepK k O O' β β' w w' := ⟨h.evo, fun o _ ho => h.keep o ho, h.new⟩
theorem StepK.refl (k : Nat) (O : Nat → Ob) (β : Nat → HE) (w : World) : StepK k O O β β w w := (Step.refl O β w).toK k
theorem StepK.trans {k : Nat} {O O' O'' : Nat → Ob} {β β' β'' : Nat → HE} {w w' w'' : World} (h : StepK k O O' β β' w w') (g : StepK k O' O'' β' β'' w' w'') : StepK k O O'' β β'' w w'' where
 evo := h.evo.trans g.evo h.new
 keep := fun o ho hn => by
  obtain ⟨h1, h2⟩ := h.keep o ho hn
  obtain ⟨k1, k2⟩ := g.keep o ho h1
  refine ⟨k1, ?_⟩
  rcases k2 with k2 | k2
  ·rcases h2 with h2 | h2
   ·exact .inl (k2.trans h2)
   ·exact .inr (k2.trans h2)
  ·exact .inr k2
 new := fun b hb => by
  rcases g.new b hb with h1 | h1
  ·exact h.new b h1
  ·exact .inr (Nat.le_trans h.evo.size h1)
/-- From every memory that `S` describes the code comes out by `e`, and `S'` describes what is then. -/
def Runs (P : Program) (k : Nat) (c : Code) (S : AS) (e : Exit) (S' : AS) : Prop :=
 ∀ β X a w, Rel S β X a w → c.wp P (fun e' a' w' => e' = e ∧ ∃ β', Rel S' β' X a' w' ∧ StepK k S.O S'.O β β' w w') a w
/-- `S` describes no more than `S'`. -/
def Ent (k : Nat) (S S' : AS) : Prop := ∀ β X a w, Rel S β X a w → ∃ β', Rel S' β' X a w ∧ StepK k S.O S'.O β β' w w
section
variable {P : Program} {k : Nat}
theorem Ent.refl (S : AS) : Ent k S S := fun β _ _ w h => ⟨β, h, StepK.refl _ _ _ _⟩
theorem Ent.trans {S S' S'' : AS} (h : Ent k S S') (g : Ent k S' S'') : Ent k S S'' := fun β X a w hR => by
 obtain ⟨β1, h1, h2⟩ := h β X a w hR
 obtain ⟨β2, h3, h4⟩ := g β1 X a w h1
 exact ⟨β2, h3, h2.trans h4⟩
theorem Runs.post {c : Code} {S S1 S' : AS} {e : Exit} (h : Runs P k c S e S1) (g : Ent k S1 S') : Runs P k c S e S' := fun β X a w hR =>
 wp_mono (h β X a w hR) fun e' a' w' ⟨he, β1, hR1, hs⟩ => by
  obtain ⟨β2, h3, h4⟩ := g β1 X a' w' hR1
  exact ⟨he, β2, h3, hs.trans h4⟩
theorem Runs.skip (S : AS) : Runs P k .skip S .normal S := fun β _ _ w hR => wp_skip ⟨rfl, β, hR, StepK.refl _ _ _ _⟩
theorem Runs.seq {x y : Code} {S S1 S2 : AS} {e : Exit} (h : Runs P k x S .normal S1) (g : Runs P k y S1 e S2) : Runs P k (.seq x y) S e S2 := fun β X a w hR =>
 wp_seq (wp_mono (h β X a w hR) fun e' a' w' ⟨he, β1, hR1, hs⟩ => by
  subst he
  exact wp_mono (g β1 X a' w' hR1) fun e2 a2 w2 ⟨he2, β2, hR2, hs2⟩ => ⟨he2, β2, hR2, hs.trans hs2⟩)
theorem then_abrupt {e : Exit} {next : Act → World → Prop} {Q : Exit → Act → World → Prop} {a : Act} {w : World} (he : e ≠ .normal) (h : Q e a w) : Exit.then next Q e a w := by
 cases e <;> first | exact h | exact absurd rfl he
def blockExit (id : Nat) : Exit → Exit
 | .exit id' => if id' = id then .normal else .exit id'
 | e => e
/-- Rounds of a loop, one behind the other. -/
inductive Loops (P : Program) (k : Nat) (c : Code) : AS → Exit → AS → Prop
 | out {S S' : AS} {e : Exit} (h : Runs P k c S e S') (he : e ≠ .normal) : Loops P k c S e S'
 | next {S S1 S' : AS} {e : Exit} (h : Runs P k c S .normal S1) (r : Loops P k c S1 e S') : Loops P k c S e S'
theorem Loops.runs {c : Code} {S S' : AS} {e : Exit} (h : Loops P k c S e S') : Runs P k (.loop c) S e S' := by
 have key : ∃ n, ∀ β X a w Q, Rel S β X a w → (∀ a' w' β', Rel S' β' X a' w' → StepK k S.O S'.O β β' w w' → Q e a' w') → Code.rounds P c Q n a w := by
  induction h with
  | @out S S' e h he =>
   refine ⟨1, fun β X a w Q hR hQ => ?_⟩
   rw [rounds_succ]
   exact wp_mono (h β X a w hR) fun e' a' w' ⟨he', β', hR', hs⟩ => then_abrupt (by rw [he']; exact he) (by rw [he']; exact hQ a' w' β' hR' hs)
  | @next S S1 S' e h r ih =>
   obtain ⟨n, hn⟩ := ih
   refine ⟨n + 1, fun β X a w Q hR hQ => ?_⟩
   rw [rounds_succ]
   refine wp_mono (h β X a w hR) fun e' a' w' ⟨he', β', hR', hs⟩ => ?_
   subst he'
   exact hn β' X a' w' Q hR' fun a2 w2 β2 hR2 hs2 => hQ a2 w2 β2 hR2 (hs.trans hs2)
 obtain ⟨n, hn⟩ := key
 exact fun β X a w hR => wp_loop_rounds n (hn β X a w _ hR fun a' w' β' hR' hs => ⟨rfl, β', hR', hs⟩)
/-- Passes from a label, one behind the other. -/
inductive Passes (P : Program) (k : Nat) (l : Nat) (c : Code) : AS → Exit → AS → Prop
 | out {S S' : AS} {e : Exit} (h : Runs P k c S e S') (he : ∀ l, e ≠ .goto l) : Passes P k l c S e S'
 | next {S S1 S' : AS} {e : Exit} (h : Runs P k c S (.goto l) S1) (r : Passes P k l c S1 e S') : Passes P k l c S e S'
end
end Sx
end Go.Proofs.YtalpfhpeaaocmaaGreat
end
