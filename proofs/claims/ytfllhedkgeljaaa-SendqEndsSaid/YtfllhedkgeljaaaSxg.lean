/-
New memory, stores, appends: what becomes of the objects. No condition.
-/
import Derived.Test.YtfllhedkgeljaaaSxf
set_option linter.unusedSimpArgs false
set_option linter.unusedVariables false
namespace Go.Proofs.Ytfllhedkgeljaaa
namespace Sx
open Go.RowKit
section
variable {P : Program} {O : Nat → Ob} {β : Nat → HE} {X : Nat → Prop} {w : World} {look : Nat → Ob}

theorem Objs.create (hO : Objs O β X w) {n : Nat} (hn : O n = .none) {ob : Ob} {he : HE} {w' : World} (hevo : Evo (fun _ => False) w w') (hblk : ∀ b, he.blk = some b → w.heap.size = b) (hob : ob ≠ .none)
    (hrel : Step O (upd O n ob) β (upd β n he) w w' → ObjRel w' (Mset X (upd β n he)) (upd β n he) (fun o => upd O n ob o ≠ .none) ob he) :
    Objs (upd O n ob) (upd β n he) X w' ∧ Step O (upd O n ob) β (upd β n he) w w' := by
  have hβn : β n = .gone := by
    have := hO.rel n
    rw [hn] at this
    generalize β n = g at this
    cases this
    rfl
  have hstep : Step O (upd O n ob) β (upd β n he) w w' := by
    refine ⟨hevo.weaken (fun _ h => h.elim), fun o ho => ?_, fun b hb => ?_⟩
    · have : o ≠ n := by rintro rfl; exact ho hn
      rw [upd_other _ _ this, upd_other _ _ this]
      exact ⟨ho, .inl rfl⟩
    · obtain ⟨o, ho⟩ := hb
      by_cases h : o = n
      · subst h
        rw [upd_same] at ho
        exact .inr (Nat.le_of_eq (hblk b ho))
      · rw [upd_other _ _ h] at ho
        exact .inl ⟨o, ho⟩
  refine ⟨⟨fun o => ?_, fun o o' b h1 h2 => ?_, fun o b hb hx => ?_, fun b hb => Nat.lt_of_lt_of_le (hO.xlt b hb) hevo.size⟩, hstep⟩
  · by_cases h : o = n
    · subst h
      rw [upd_same, upd_same]
      exact hrel hstep
    · rw [upd_other _ _ h, upd_other _ _ h]
      exact (hO.rel o).mono hstep.evo (fun _ hb => .inr hb) (hstep.mset X) hstep.keep fun b hb => hevo.block b ((hO.rel o).lt hb) (fun h => h)
  · by_cases e1 : o = n
    · by_cases e2 : o' = n
      · rw [e1, e2]
      · subst e1
        rw [upd_same] at h1
        rw [upd_other _ _ e2] at h2
        have := (hO.rel o').lt h2
        have := hblk b h1
        omega
    · by_cases e2 : o' = n
      · subst e2
        rw [upd_same] at h2
        rw [upd_other _ _ e1] at h1
        have := (hO.rel o).lt h1
        have := hblk b h2
        omega
      · rw [upd_other _ _ e1] at h1
        rw [upd_other _ _ e2] at h2
        exact hO.inj o o' b h1 h2
  · by_cases e1 : o = n
    · subst e1
      rw [upd_same] at hb
      have := hblk b hb
      have := hO.xlt b hx
      omega
    · rw [upd_other _ _ e1] at hb
      exact hO.priv o b hb hx

theorem Objs.kill (hO : Objs O β X w) {n : Nat} (hn : O n ≠ .none) : Objs (upd O n .gone) (upd β n .gone) X w ∧ Step O (upd O n .gone) β (upd β n .gone) w w := by
  have hsub : ∀ o b, (upd β n HE.gone o).blk = some b → (β o).blk = some b ∧ o ≠ n := fun o b hb => by
    by_cases h : o = n
    · subst h; rw [upd_same] at hb; cases hb
    · rw [upd_other _ _ h] at hb; exact ⟨hb, h⟩
  have hstep : Step O (upd O n .gone) β (upd β n .gone) w w := by
    refine ⟨Evo.refl _ _, fun o ho => ?_, fun b ⟨o, ho⟩ => .inl ⟨o, (hsub o b ho).1⟩⟩
    by_cases h : o = n
    · subst h; rw [upd_same, upd_same]; exact ⟨by simp, .inr rfl⟩
    · rw [upd_other _ _ h, upd_other _ _ h]; exact ⟨ho, .inl rfl⟩
  refine ⟨⟨fun o => ?_, fun o o' b h1 h2 => hO.inj o o' b (hsub _ _ h1).1 (hsub _ _ h2).1, fun o b hb => hO.priv o b (hsub _ _ hb).1, hO.xlt⟩, hstep⟩
  by_cases h : o = n
  · subst h; rw [upd_same, upd_same]; exact .gone
  · rw [upd_other _ _ h, upd_other _ _ h]
    exact (hO.rel o).mono hstep.evo (fun _ hb => .inr hb) (hstep.mset X) hstep.keep fun _ _ => rfl

/-- An object is written in place. -/
theorem Objs.write (hO : Objs O β X w) {n b : Nat} (hn : O n ≠ .none) (hb : (β n).blk = some b) {ob : Ob} {w' : World} (hevo : Evo (fun x => x = b) w w') (hob : ob ≠ .none)
    (hrel : Step O (upd O n ob) β β w w' → ObjRel w' (Mset X β) β (fun o => upd O n ob o ≠ .none) ob (β n)) :
    Objs (upd O n ob) β X w' ∧ Step O (upd O n ob) β β w w' := by
  have hstep : Step O (upd O n ob) β β w w' := by
    refine ⟨hevo.weaken (fun x h => h ▸ ⟨n, hb⟩), fun o ho => ?_, fun b hb => .inl hb⟩
    by_cases h : o = n
    · subst h; rw [upd_same]; exact ⟨hob, .inl rfl⟩
    · rw [upd_other _ _ h]; exact ⟨ho, .inl rfl⟩
  refine ⟨⟨fun o => ?_, hO.inj, hO.priv, fun x hx => Nat.lt_of_lt_of_le (hO.xlt x hx) hevo.size⟩, hstep⟩
  by_cases h : o = n
  · subst h; rw [upd_same]; exact hrel hstep
  · rw [upd_other _ _ h]
    exact (hO.rel o).mono hstep.evo (fun _ hb => .inr hb) (hstep.mset X) hstep.keep fun b' hb' => hevo.block b' ((hO.rel o).lt hb') (fun e => h (hO.inj o n b (e ▸ hb') hb))

theorem Done.of_one {β' : Nat → HE} {w' : World} {n : Nat} {ob : Ob} {x : AV} {v : Value} {obs : List Prop} (h : Objs (upd O n ob) β' X w' ∧ Step O (upd O n ob) β β' w w')
    (hv : AR (upd O n ob) β' X w' x v) : Done O β X w ⟨x, [(n, ob)], obs⟩ v β' w' := ⟨hv, h.1, h.2⟩

/-- A new block of cells that stand for abstract cells. -/
theorem new_box (hO : Objs O β X w) {n : Nat} (hn : O n = .none) {cs : List AV} {vs : Array Value} (hc : CR O β X w cs vs) (t : TypeId) (obs : List Prop) :
    Done O β X w ⟨.ptr n 0, [(n, .box cs)], obs⟩ (.pointer (some ⟨w.heap.size, 0, none⟩)) (upd β n (.box w.heap.size)) (w.alloc (.cells vs t)) := by
  have hevo : Evo (fun _ => False) w (w.alloc (.cells vs t)) := (Evo.refl _ _).alloc _
  have h := hO.create (ob := .box cs) (he := .box w.heap.size) hn hevo (fun b hb => by cases hb; rfl) (by simp) fun hs =>
    .box cs w.heap.size vs t 0 0 (heap_alloc_new w _) (fun j => by omega) hc.size fun j x hj => hs.rav (hc.at_ j x hj)
  refine ⟨.ptr _ _ _ (by simp [updL, upd_same]) rfl fun b hb => ?_, h.1, h.2⟩
  rw [upd_same] at hb
  cases hb
  rfl

/-- A new block of cells that stand for a row of plain elements. -/
theorem new_row (hO : Objs O β X w) {n : Nat} (hn : O n = .none) {sz : Nat} {es : List D} {vs : Array Value} (t lo hi : Nat) (hf : Fz lo hi vs.size)
    (hsz : ∀ e ∈ es, e.cells.length = sz ∧ ∀ d ∈ e.cells, d.one = true) (hl : es.length * sz ≤ vs.size)
    (hr : ∀ i j e d, es[i]? = some e → e.cells[j]? = some d → RepD w (Mset X β) d (vs.getD (i * sz + j) undef)) (w' : World) (hevo : Evo (fun _ => False) w w')
    (hh : w'.heap[w.heap.size]? = some (.cells vs t (lo, hi))) :
    Objs (upd O n (.row sz es)) (upd β n (.row sz es.length (some (w.heap.size, vs.size)))) X w' ∧ Step O (upd O n (.row sz es)) β (upd β n (.row sz es.length (some (w.heap.size, vs.size)))) w w' :=
  hO.create (ob := .row sz es) (he := .row sz es.length (some (w.heap.size, vs.size))) hn hevo (fun b hb => by cases hb; rfl) (by simp) fun hs =>
    .row sz es w.heap.size vs t lo hi hh hf hsz hl fun i j e d h1 h2 => hs.repd (hr i j e d h1 h2)

theorem actBox_ok {dst : Nat} {T : TypeId} {x : AV} {e : Eff} {vx : Value} (hO : Objs O β X w) (hl : Looks O look) (hx : AR O β X w x vx) (ha : actBox dst x look = some e) :
    ∃ v w' β', (Instr.box T vx).run P w = .ok v w' ∧ Done O β X w e v β' w' := by
  unfold actBox at ha
  split at ha
  · next cs hlk hcs =>
    cases ha
    exact ⟨_, _, _, rfl, new_box hO (hl.none hlk) (cells_ok hcs hx) T []⟩
  · cases ha

theorem list_repl_get {z : D} {n i : Nat} {e : D} (h : (List.replicate n z)[i]? = some e) : e = z := by
  have := List.mem_of_getElem? h
  exact (List.mem_replicate.1 this).2

theorem one_dcells {d : D} (h : d.one = true) : d.cells = [d] := by cases d <;> first | rfl | (cases h)
theorem same_eq {z : D} {x : AV} (h : sameAV z x = true) : x = AV.d z := by
  unfold sameAV at h
  split at h
  · next y =>
    congr 1
    cases y <;> cases z <;> simp_all [D.same]
    all_goals (rename_i s t; cases s <;> cases t <;> simp_all [D.same])
  · cases h

theorem actAlloc_ok {dst : Nat} {T : TypeId} {h : OH} {e : Eff} (hO : Objs O β X w) (hl : Looks O look) (ha : actAlloc P dst T h look = some e) :
    ∃ v w' β', (Instr.alloc T true (.tuple #[])).run P w = .ok v w' ∧ Done O β X w e v β' w' := by
  unfold actAlloc at ha
  split at ha
  · next cs hlk hcs =>
    obtain ⟨z, hz, hc⟩ := zeroC_ok (P := P) (O := O) (β := β) (X := X) (w := w) hcs
    have hrun : (Instr.alloc T true (.tuple #[])).run P w = .ok (.pointer (some ⟨w.heap.size, 0, none⟩)) (w.alloc (.cells z.cells T)) := by
      simp only [Instr.alloc, Sem.run_bind, hz, Result.andThen_ok]
      rfl
    split at ha
    · split at ha
      · next n elem hu =>
        split at ha
        · next zd hze hse =>
          split at ha
          · next hcond =>
            obtain ⟨hone, hlen, hall⟩ := hcond
            cases ha
            have hsame : ∀ j x, cs[j]? = some x → x = AV.d zd := fun j x hj => same_eq (List.all_eq_true.1 hall x (List.mem_of_getElem? hj))
            have hzs := hc.size
            have hcells : zd.cells = [zd] := one_dcells hone
            have hrow := new_row (sz := 1) (es := List.replicate n zd) (vs := z.cells) hO (hl.none hlk) T 0 0 (.inl rfl)
              (fun e he => by
                obtain rfl := (List.mem_replicate.1 he).2
                rw [hcells]
                exact ⟨rfl, fun d hd => by rw [List.mem_singleton.1 hd]; exact hone⟩)
              (by simp; omega)
              (fun i j e d h1 h2 => by
                obtain rfl := list_repl_get h1
                rw [hcells] at h2
                have hj : j = 0 := by
                  cases j with
                  | zero => rfl
                  | succ j => simp at h2
                subst hj
                have hin : i < n := by have := (List.getElem?_eq_some_iff.1 h1).1; simpa using this
                have hcx : cs[i]? = some cs[i] := List.getElem?_eq_getElem (by omega)
                have := hc.at_ i _ hcx
                rw [hsame _ _ hcx] at this
                cases h2
                simpa using this.d_inv)
              (w.alloc (.cells z.cells T)) ((Evo.refl _ _).alloc _) (heap_alloc_new w _)
            refine ⟨_, _, _, hrun, Done.of_one hrow (.rptr _ _ _ _ _ (by simp [upd_same]) rfl fun sz' len b m hb => ?_)⟩
            rw [upd_same] at hb
            cases hb
            exact ⟨rfl, by simp⟩
          · cases ha
        · cases ha
      · cases ha
    · cases ha
      exact ⟨_, _, _, hrun, new_box hO (hl.none hlk) hc T []⟩
  · cases ha

theorem run_storeCells (g o : Nat) (t lo hi : Nat) : ∀ (vs : List Value) (i : Nat) (cur : Array Value) (w : World), w.heap[g]? = some (.cells cur t (lo, hi)) → o + i + vs.length ≤ cur.size →
    (∀ j, j < cur.size → ¬ (lo ≤ j ∧ j < hi)) → (∀ v ∈ vs, v.oneCell' = true) →
    (storeCells ⟨g, o, none⟩ vs i).run P w = .ok () (w.setRow g (cur.toList.take (o + i) ++ vs ++ cur.toList.drop (o + i + vs.length)).toArray)
  | [], i, cur, w, hg, _, _, _ => by
    simp only [storeCells, List.append_nil, List.length_nil, Nat.add_zero, List.take_append_drop, Array.toArray_toList]
    rw [setRow_self w g cur t (lo, hi) hg]
    rfl
  | v :: rest, i, cur, w, hg, hl, hf, h1 => by
    have hi' : o + i < cur.size := by simp at hl; omega
    have hadd : (⟨g, o, none⟩ : Addr).add i = ⟨g, o + i, none⟩ := add_mk _ _ _
    have hcell : w.cell? ⟨g, o + i, none⟩ = some cur[o + i] := by simp [World.cell?, hg, hi']
    have hfro : w.frozen? ⟨g, o + i, none⟩ = false := by
      have := hf (o + i) hi'
      simp only [World.frozen?, hg]
      simpa using this
    have hst : (store ((⟨g, o, none⟩ : Addr).add i) v).run P w = .ok () (w.setRow g (cur.setIfInBounds (o + i) v)) := by
      rw [hadd, run_store P w _ v _ (h1 v (by simp)), hcell]
      simp [hfro, setCell_eq_setRow w g (o + i) cur t (lo, hi) v hg]
    have ih := run_storeCells g o t lo hi rest (i + 1) (cur.setIfInBounds (o + i) v) (w.setRow g (cur.setIfInBounds (o + i) v)) (setRow_heap w g cur _ t _ hg) (by simp at hl ⊢; omega)
      (by simpa using hf) (fun x hx => h1 x (by simp [hx]))
    simp only [storeCells, Sem.run_bind, hst, Result.andThen_ok, ih, setRow_setRow]
    congr 3
    have e := list_seg_step cur.toList (o + i) v rest (by simp at hl ⊢; omega)
    simpa [Array.toList_setIfInBounds, Nat.add_assoc] using e

theorem setRow_evo (w : World) (g : Nat) (cs : Array Value) : Evo (fun x => x = g) w (w.setRow g cs) :=
  ⟨rfl, rfl, rfl, by simp, fun b _ hb => setRow_other w g b cs hb⟩

theorem CR.one_cells {cs : List AV} {vs : Array Value} (h : CR O β X w cs vs) (ho : cs.all AV.one = true) : ∀ v ∈ vs.toList, v.oneCell' = true := by
  intro v hv
  obtain ⟨j, hj, rfl⟩ := List.getElem_of_mem hv
  have hj' : j < cs.length := by have := h.size; simp at hj; omega
  have hx := h.at_ j cs[j] (List.getElem?_eq_getElem hj')
  have h1 := List.all_eq_true.1 ho cs[j] (List.getElem_mem hj')
  have e : vs.getD j undef = vs.toList[j] := by
    simp at hj
    simp [Array.getD_eq_getD_getElem?, hj]
  rw [e] at hx
  generalize vs.toList[j] = u at hx
  generalize cs[j] = x at hx h1
  cases hx with
  | d d _ hd => exact (hd.one h1).1
  | raw v => exact h1
  | ptr o off v hC hone hv => exact hone
  | rptr o sz i off v hC hone hv => exact hone
  | eptr e off p f => rfl
  | own o sz v hC hone hv => exact hone
  | sub o sz lo n v hC hone hv => exact hone
  | agg cs vs hl hr => cases h1
  | tup cs vs hl hr => cases h1
  | fn f cs vs => rfl
  | meth f cs vs => rfl
  | dead v => cases h1

theorem getD_setAt {cur : Array Value} {vs : List Value} {off : Nat} (h : off + vs.length ≤ cur.size) (j : Nat) :
    (cur.toList.take off ++ vs ++ cur.toList.drop (off + vs.length)).toArray.getD j undef = if off ≤ j ∧ j < off + vs.length then vs.getD (j - off) undef else cur.getD j undef := by
  have := setAt_get (old := cur.toList) (cs := vs) (off := off) (by simpa using h) j
  unfold setAt at this
  rw [Array.getD_eq_getD_getElem?, List.getElem?_toArray, this]
  split
  · rw [List.getD_eq_getElem?_getD]
  · rw [Array.getElem?_toList, Array.getD_eq_getD_getElem?]

theorem getD_setAt' {cur : Array Value} {vs : List Value} {off n : Nat} (h : off + vs.length ≤ cur.size) (hn : vs.length = n) (j : Nat) :
    (cur.toList.take off ++ vs ++ cur.toList.drop (off + vs.length)).toArray.getD j undef = if off ≤ j ∧ j < off + n then vs.getD (j - off) undef else cur.getD j undef := by
  subst hn; exact getD_setAt h j

theorem storeVar_run {T : TypeId} {n : Nat} (hn : szT P T = some n) {v : Value} {g o t lo hi : Nat} {cur : Array Value} (hs : v.cells.size = n) (hg : w.heap[g]? = some (.cells cur t (lo, hi))) (hfit : o + n ≤ cur.size)
    (hf : ∀ j, j < cur.size → ¬ (lo ≤ j ∧ j < hi)) (h1 : ∀ u ∈ v.cells.toList, u.oneCell' = true) :
    (Instr.storeAt T (.pointer (some ⟨g, o, none⟩)) v).run P w = .ok () (w.setRow g (cur.toList.take o ++ v.cells.toList ++ cur.toList.drop (o + v.cells.toList.length)).toArray) := by
  have := run_storeCells (P := P) g o t lo hi v.cells.toList 0 cur w hg (by simp; omega) hf h1
  simp only [Nat.add_zero] at this
  simp only [Instr.storeAt, Instr.sureAddr, Sem.run_bind, Sem.run_pure, Result.andThen_ok, storeVar, szT_run hn, hs, ne_eq, not_true, if_false]
  exact this

theorem setCells_ok {e : D} {off sz : Nat} {ds : List D} (hlen : e.cells.length = sz) (hone : ∀ d ∈ e.cells, d.one = true) (h0 : 0 < ds.length) (hfit : off + ds.length ≤ e.cells.length) (hds : ∀ d ∈ ds, d.one = true) :
    (e.setCells off ds).cells = setAt e.cells off ds ∧ (e.setCells off ds).cells.length = sz ∧ ∀ d ∈ (e.setCells off ds).cells, d.one = true := by
  have key : (e.setCells off ds).cells = setAt e.cells off ds := by
    cases e with
    | agg cs => rfl
    | _ =>
      simp only [D.cells, List.length_singleton] at hfit
      have h1 : off = 0 := by omega
      subst h1
      match ds, h0, hfit, hds with
      | [x], _, _, hds => exact (one_dcells (hds x (by simp))).trans rfl
      | x :: y :: r, _, hfit, _ => simp at hfit
  refine ⟨key, by rw [key, setAt_length hfit, hlen], fun d hd => ?_⟩
  rw [key] at hd
  unfold setAt at hd
  rcases List.mem_append.1 hd with hd | hd
  · rcases List.mem_append.1 hd with hd | hd
    · exact hone d (List.mem_of_mem_take hd)
    · exact hds d hd
  · exact hone d (List.mem_of_mem_drop hd)

theorem actStore_ok {T : TypeId} {x y : AV} {h : OH} {e : Eff} {vx vy : Value} (hO : Objs O β X w) (hl : Looks O look) (hx : AR O β X w x vx) (hy : AR O β X w y vy) (ha : actStore P T x y h look = some e) (hob : ∀ p ∈ e.obs, p) :
    ∃ w' β', (Instr.storeAt T vx vy).run P w = .ok () w' ∧ Done O β X w e undef β' w' := by
  unfold actStore at ha
  split at ha
  · next n cs hn hcs =>
    have hc := cells_ok hcs hy
    split at ha
    · next o off =>
      split at ha
      · next old hlk =>
        split at ha
        · next hcond =>
          obtain ⟨hcn, hfit, hall⟩ := hcond
          cases ha
          have hOn := hl.box hlk
          obtain ⟨b, cur, t, lo, hi, hβ, hb, hf, hsz, hr⟩ := hO.boxS hOn
          cases hx with
          | ptr o off v hC hone hv =>
            obtain rfl := hv b hβ
            have hcs2 := hc.size
            have hrun := storeVar_run (P := P) hn (v := vy) (o := off) (by omega) hb (by omega) (fun j _ => hf j) (hc.one_cells hall)
            have hlen : (vy.cells.toList).length = cs.length := by simpa using hcs2
            have hfit2 : off + vy.cells.toList.length ≤ cur.size := by omega
            have hw := hO.write (ob := .box (setAt old off cs)) (by rw [hOn]; simp) (by rw [hβ]; rfl) (setRow_evo w b (cur.toList.take off ++ vy.cells.toList ++ cur.toList.drop (off + vy.cells.toList.length)).toArray) (by simp) fun hs => by
              rw [hβ]
              refine .box _ b _ t lo hi (setRow_heap w b cur _ t _ hb) ?_ ?_ fun j x hj => ?_
              · exact hf
              · simp only [List.size_toArray, List.length_append, List.length_take, List.length_drop, Array.length_toList]
                rw [setAt_length (by omega)]
                simp at hlen
                omega
              · rw [getD_setAt' hfit2 hlen]
                rw [setAt_get (by omega)] at hj
                split
                · next hin =>
                  rw [if_pos hin] at hj
                  have := hs.rav (hc.at_ _ _ hj)
                  simpa using this
                · next hin =>
                  rw [if_neg hin] at hj
                  exact hs.rav (hr j x hj)
            exact ⟨_, _, hrun, Done.of_one hw (.dead _)⟩
        · cases ha
      · cases ha
    · next o sz i off =>
      split at ha
      · next szr es el ds hlk hds =>
        split at ha
        · next hcond =>
          obtain ⟨hcn, hfit, hel, hn0, hall⟩ := hcond
          cases ha
          have e1 : szr = sz := hob _ (by simp)
          have e2 : es[i]? = some el := hob _ (by simp)
          subst e1
          have hcsd := allD_spec hds
          subst hcsd
          have hOn := hl.row hlk
          have hil := (List.getElem?_eq_some_iff.1 e2).1
          rcases hO.row hOn with ⟨hes, -⟩ | ⟨b, cur, t, lo, hi, hβ, hb, hf, hsz2, hlen, hr⟩
          · subst hes; simp at e2
          · cases hx with
            | rptr o sz i off v hC hone hv =>
              obtain ⟨-, rfl⟩ := hv _ _ _ _ hβ
              have hcs2 := hc.size
              simp only [List.length_map] at hcs2 hcn
              have hfit1 : i * szr + szr ≤ cur.size := by
                have : (i + 1) * szr ≤ es.length * szr := Nat.mul_le_mul_right _ hil
                rw [Nat.succ_mul] at this; omega
              have hdone : ∀ d ∈ ds, d.one = true := fun d hd => List.all_eq_true.1 hall d hd
              have hrun := storeVar_run (P := P) hn (v := vy) (o := i * szr + off) (by omega) hb (show i * szr + off + n ≤ cur.size by omega) hf.out
                (hc.one_cells (by simp only [List.all_map, List.all_eq_true]; exact hdone))
              have hlen2 : (vy.cells.toList).length = ds.length := by simpa using hcs2
              have hel2 := hsz2 el (List.mem_of_getElem? e2)
              obtain ⟨k1, k2, k3⟩ := setCells_ok (e := el) (off := off) (ds := ds) hel2.1 hel2.2 (by omega) (by omega) hdone
              have hfit2 : i * szr + off + vy.cells.toList.length ≤ cur.size := by omega
              have hw := hO.write (ob := .row szr (es.set i (el.setCells off ds))) (by rw [hOn]; simp) (by rw [hβ]; rfl) (setRow_evo w b (cur.toList.take (i * szr + off) ++ vy.cells.toList ++ cur.toList.drop (i * szr + off + vy.cells.toList.length)).toArray) (by simp) fun hs => by
                rw [hβ]
                have hsize : (cur.toList.take (i * szr + off) ++ vy.cells.toList ++ cur.toList.drop (i * szr + off + vy.cells.toList.length)).toArray.size = cur.size := by
                  simp only [List.size_toArray, List.length_append, List.length_take, List.length_drop, Array.length_toList]
                  simp at hlen2
                  omega
                have hh := ObjRel.row (M := Mset X β) (β := β) (C := fun o' => upd O o (Ob.row szr (es.set i (el.setCells off ds))) o' ≠ Ob.none) szr (es.set i (el.setCells off ds)) b _ t lo hi (setRow_heap w b cur _ t _ hb)
                  (by rw [hsize]; exact hf)
                  (fun e he => by
                    rcases List.mem_or_eq_of_mem_set he with h | h
                    · exact hsz2 e h
                    · subst h; exact ⟨k2, k3⟩)
                  (by rw [hsize]; simpa using hlen)
                  (fun i' j e d h1 h2 => by
                    have hjs : j < szr := by
                      have hm := List.mem_of_getElem? h1
                      have hjl := (List.getElem?_eq_some_iff.1 h2).1
                      rcases List.mem_or_eq_of_mem_set hm with h | h
                      · rw [(hsz2 e h).1] at hjl; exact hjl
                      · subst h; rw [k2] at hjl; exact hjl
                    rw [getD_setAt' hfit2 hlen2]
                    by_cases hii : i' = i
                    · subst hii
                      rw [List.getElem?_set_self hil] at h1
                      cases h1
                      rw [k1, setAt_get (by omega)] at h2
                      by_cases hin : off ≤ j ∧ j < off + ds.length
                      · rw [if_pos hin] at h2
                        rw [if_pos (by omega)]
                        have := (hc.at_ (j - off) (AV.d d) (by rw [List.getElem?_map, h2]; rfl)).d_inv
                        rw [show i' * szr + j - (i' * szr + off) = j - off by omega]
                        have h3 := hs.repd this
                        simpa using h3
                      · rw [if_neg hin] at h2
                        rw [if_neg (by omega)]
                        exact hs.repd (hr i' j el d e2 h2)
                    · rw [List.getElem?_set_ne (Ne.symm hii)] at h1
                      have hnot : ¬ (i * szr + off ≤ i' * szr + j ∧ i' * szr + j < i * szr + off + ds.length) := by
                        intro hbad
                        rcases Nat.lt_or_ge i' i with hlt | hge
                        · have : (i' + 1) * szr ≤ i * szr := Nat.mul_le_mul_right _ hlt
                          rw [Nat.succ_mul] at this
                          omega
                        · have : (i + 1) * szr ≤ i' * szr := Nat.mul_le_mul_right _ (by omega)
                          rw [Nat.succ_mul] at this
                          omega
                      rw [if_neg hnot]
                      exact hs.repd (hr i' j e d h1 h2))
                rw [List.length_set, hsize] at hh
                exact hh
              exact ⟨_, _, hrun, Done.of_one hw (.dead _)⟩
        · cases ha
      · next szr es ds hlk hds =>
        split at ha
        · next hcond =>
          obtain ⟨hcn, hsz1, hn0, hall⟩ := hcond
          cases ha
          have e1 : szr = 1 := hob _ (by simp)
          have e2 : i = 0 := hob _ (by simp)
          have e3 : off = 0 := hob _ (by simp)
          have e4 : es.length = n := hob _ (by simp)
          subst e1 e2 e3 hsz1
          have hcsd := allD_spec hds
          subst hcsd
          have hOn := hl.row hlk
          rcases hO.row hOn with ⟨hes, -⟩ | ⟨b, cur, t, lo, hi, hβ, hb, hf, hsz2, hlen, hr⟩
          · subst hes; simp at e4; omega
          · cases hx with
            | rptr o sz i off v hC hone hv =>
              obtain ⟨-, rfl⟩ := hv _ _ _ _ hβ
              have hcs2 := hc.size
              simp only [List.length_map] at hcs2 hcn
              have hdone : ∀ d ∈ ds, d.one = true := fun d hd => List.all_eq_true.1 hall d hd
              have hrun := storeVar_run (P := P) hn (v := vy) (o := 0 * 1 + 0) (by omega) hb (show 0 * 1 + 0 + n ≤ cur.size by omega) hf.out
                (hc.one_cells (by simp only [List.all_map, List.all_eq_true]; exact hdone))
              have hlen2 : (vy.cells.toList).length = ds.length := by simpa using hcs2
              have hfit2 : 0 * 1 + 0 + vy.cells.toList.length ≤ cur.size := by omega
              have hw := hO.write (ob := .row 1 ds) (by rw [hOn]; simp) (by rw [hβ]; rfl) (setRow_evo w b (cur.toList.take (0 * 1 + 0) ++ vy.cells.toList ++ cur.toList.drop (0 * 1 + 0 + vy.cells.toList.length)).toArray) (by simp) fun hs => by
                rw [hβ]
                have hsize : (cur.toList.take (0 * 1 + 0) ++ vy.cells.toList ++ cur.toList.drop (0 * 1 + 0 + vy.cells.toList.length)).toArray.size = cur.size := by
                  simp only [List.size_toArray, List.length_append, List.length_take, List.length_drop, Array.length_toList]
                  simp at hlen2
                  omega
                have hdc : ∀ d ∈ ds, d.cells = [d] := fun d hd => one_dcells (hdone d hd)
                have hh := ObjRel.row (M := Mset X β) (β := β) (C := fun o' => upd O o (Ob.row 1 ds) o' ≠ Ob.none) 1 ds b _ t lo hi (setRow_heap w b cur _ t _ hb)
                  (by rw [hsize]; exact hf)
                  (fun e he => by
                    rw [hdc e he]
                    exact ⟨rfl, fun d hd => by rw [List.mem_singleton] at hd; rw [hd]; exact hdone e he⟩)
                  (by rw [hsize]; omega)
                  (fun i' j e d h1 h2 => by
                    have hm := List.mem_of_getElem? h1
                    have hil := (List.getElem?_eq_some_iff.1 h1).1
                    rw [hdc e hm] at h2
                    cases j with
                    | succ j => simp at h2
                    | zero =>
                      cases h2
                      rw [getD_setAt' hfit2 hlen2, if_pos (by omega)]
                      have := (hc.at_ i' (AV.d e) (by rw [List.getElem?_map, h1]; rfl)).d_inv
                      rw [show i' * 1 + 0 - (0 * 1 + 0) = i' by omega]
                      have h3 := hs.repd this
                      simpa using h3)
                rw [hsize, show ds.length = es.length by omega] at hh
                exact hh
              exact ⟨_, _, hrun, Done.of_one hw (.dead _)⟩
        · cases ha
      · cases ha
    · cases ha
  · cases ha
end
end Sx
end Go.Proofs.Ytfllhedkgeljaaa
