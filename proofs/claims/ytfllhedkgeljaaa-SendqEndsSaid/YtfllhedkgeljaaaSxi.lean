/-
Slice literals and the bytes of a string, as new objects; every plain operation; contracts. No condition.
-/
import Derived.Test.YtfllhedkgeljaaaSxh
import Derived.Laws.MakeOwn
set_option linter.unusedSimpArgs false
set_option linter.unusedVariables false
namespace Go.Proofs.Ytfllhedkgeljaaa
namespace Sx
open Go.RowKit
section
variable {P : Program} {O : Nat → Ob} {β : Nat → HE} {X : Nat → Prop} {w : World} {look : Nat → Ob}

theorem repl_ok {z : List AV} {zv : Array Value} (h : CR O β X w z zv) (hz : 0 < zv.size) (n : Nat) : CR O β X w (repl n z) ((Array.range (n * zv.size)).map (zv[· % zv.size]!)) := by
  have hlen : ∀ n, (repl n z).length = n * z.length := fun n => by
    induction n with
    | zero => simp [repl]
    | succ n ih => simp [repl, ih, Nat.succ_mul]; omega
  have hget : ∀ n j, j < n * z.length → (repl n z)[j]? = z[j % z.length]? := fun n => by
    induction n with
    | zero => intro j hj; simp at hj
    | succ n ih =>
      intro j hj
      rw [Nat.succ_mul] at hj
      unfold repl
      by_cases h1 : j < z.length
      · rw [List.getElem?_append_left h1, Nat.mod_eq_of_lt h1]
      · rw [List.getElem?_append_right (by omega), ih (j - z.length) (by omega), ← Nat.mod_eq_sub_mod (by omega)]
  have hs := h.size
  refine ⟨by simp [hlen, hs], fun j x hj => ?_⟩
  have hjn : j < n * z.length := by
    rw [← hlen]; exact (List.getElem?_eq_some_iff.1 hj).1
  rw [hget n j hjn] at hj
  have hm : j % zv.size < zv.size := Nat.mod_lt _ hz
  have := h.at_ _ _ hj
  rw [hs] at hm ⊢
  have e : ((Array.range (n * z.length)).map (zv[· % z.length]!)).getD j undef = zv.getD (j % z.length) undef := by
    rw [Array.getD_eq_getD_getElem?, Array.getElem?_map, Array.getElem?_range]
    simp only [hjn, if_true, Option.map_some, Option.getD_some]
    rw [getElem!_pos zv (j % z.length) (by omega), Array.getD_eq_getD_getElem?, Array.getElem?_eq_getElem (by omega), Option.getD_some]
  rw [e]
  exact this

theorem chunk_len (sz n : Nat) (l : List D) : (chunk sz n l).length = n := by
  induction n generalizing l with
  | zero => rfl
  | succ n ih => simp [chunk, ih]
theorem chunk_get {sz : Nat} : ∀ {n i : Nat} {l : List D} {e : D}, (chunk sz n l)[i]? = some e → e = .agg ((l.drop (i * sz)).take sz) ∧ i < n
  | 0, i, l, e, h => by simp [chunk] at h
  | n + 1, 0, l, e, h => by simp [chunk] at h; exact ⟨by simpa using h.symm, by omega⟩
  | n + 1, i + 1, l, e, h => by
    simp only [chunk, List.getElem?_cons_succ] at h
    obtain ⟨h1, h2⟩ := chunk_get h
    refine ⟨?_, by omega⟩
    rw [h1, List.drop_drop, Nat.succ_mul, Nat.add_comm]

theorem actMake_ok {dst : Nat} {T : TypeId} {l c : AV} {e : Eff} {vl vc : Value} (hO : Objs O β X w) (hlk : Looks O look) (hx : AR O β X w l vl) (hy : AR O β X w c vc)
    (ha : actMake P dst T l c look = some e) (hob : ∀ p ∈ e.obs, p) : ∃ v w' β', (Instr.makeSlice T vl vc).run P w = .ok v w' ∧ Done O β X w e v β' w' := by
  unfold actMake at ha
  split at ha
  · next elem kl n kc m hlook hu =>
    split at ha
    · next zc s d hzc hsz hzd =>
      split at ha
      · next hlen =>
        cases ha
        have h1 : n = m := hob _ (by simp)
        have h2 : 0 ≤ n ∧ n ≤ 9223372036854775807 := hob _ (by simp)
        have h3 : (bytesT P elem : Int) * n ≤ 281474976710656 := hob _ (by simp)
        subst h1
        obtain rfl := hx.d_inv.int_inv
        obtain rfl := hy.d_inv.int_inv
        obtain ⟨i, hi, his⟩ := szT_info hsz
        obtain ⟨z0, hz0, hzs⟩ := zero_info hi hzc (by rw [hlen, his])
        have hby : bytesT P elem = i.bytes := by unfold bytesT; rw [hi]
        rw [hby] at h3
        have hrun := run_make w T elem i z0 hu hi hz0 kl kc n n h2.1 (Int.le_refl _) h3 h2.2
        obtain ⟨⟨k1, k2⟩, k3⟩ := zeroD_ok (w := w) (β := β) (X := X) (O := O) hO hzd hi hz0 hzs
        have hms : madeCells z0.cells (n.toNat * i.size) = Builtin.zeroCells z0.cells n.toNat := by
          unfold madeCells Builtin.zeroCells
          rw [hzs]
        rw [hms] at hrun
        have hrow := new_row (sz := s + 1) (es := List.replicate n.toNat d) hO (hlk.none hlook) (vs := Builtin.zeroCells z0.cells n.toNat) elem 0 0 (.inl rfl)
          (fun e he => by rw [List.eq_of_mem_replicate he]; exact ⟨by rw [k1, his], k2⟩)
          (by rw [List.length_replicate, zeroCells_size, hzs, his]; exact Nat.le_refl _)
          (fun a j e x ha hj => by
            have hlt := (List.getElem?_eq_some_iff.1 ha).1
            rw [List.length_replicate] at hlt
            have he := list_repl_get ha
            subst he
            have hj2 : j < z0.cells.size := by have := (List.getElem?_eq_some_iff.1 hj).1; omega
            have := zeroCells_get z0.cells n.toNat a j hlt hj2
            rw [hzs, his] at this
            rw [this]
            exact k3 j x hj) (w.alloc (.cells (Builtin.zeroCells z0.cells n.toNat) elem)) ((Evo.refl _ _).alloc _) (heap_alloc_new w _)
        refine ⟨_, _, _, hrun, Done.of_one hrow (.own _ _ _ (by simp [upd_same]) rfl fun sz2 len g hb => ?_)⟩
        rw [upd_same] at hb
        cases hb
        refine ⟨rfl, ?_⟩
        rw [List.length_replicate]
        exact ownV_grown w (Nat.le_refl _) (by rw [zeroCells_size, hzs, his]; exact Nat.le_refl _)
      · cases ha
    · cases ha
  · cases ha
theorem actBuildSlice_ok {dst : Nat} {T : TypeId} {n : Nat} {parts : List (Nat × AV)} {vparts : Array (Nat × Value)} {e : Eff} (hO : Objs O β X w) (hl : Looks O look)
    (hp : Fa (fun (p : Nat × AV) (q : Nat × Value) => p.1 = q.1 ∧ AR O β X w p.2 q.2) parts vparts.toList) (ha : actBuildSlice P dst T n parts look = some e) :
    ∃ v w' β', (Instr.buildSlice T n vparts).run P w = .ok v w' ∧ Done O β X w e v β' w' := by
  unfold actBuildSlice at ha
  split at ha
  · next elem hlk hu =>
    split at ha
    · next sz z ag hsz hz hag =>
      split at ha
      · next hcond =>
        obtain ⟨hzl, h0, hlim, hagsz⟩ := hcond
        split at ha
        · next cs hfill =>
          obtain ⟨zv, hzv, hcz⟩ := zeroC_ok (P := P) (O := O) (β := β) (X := X) (w := w) hz
          have hzs : zv.cells.size = sz := by rw [hcz.size, hzl]
          have hcr := repl_ok hcz (by omega) n
          obtain ⟨vs', h1, h2⟩ := fill_ok hfill hcr hp
          rw [hzs] at h1
          have hrun : (Instr.buildSlice T n vparts).run P w = .ok (.slice (some ⟨w.heap.size, 0, none⟩) n n) (w.alloc (.cells vs' elem)) := by
            by_cases hn : n * sz = 0
            · have hn0 : n = 0 := by
                rcases Nat.mul_eq_zero.1 hn with h | h
                · exact h
                · omega
              subst hn0
              simp only [Nat.zero_mul] at h1
              have he : ∀ f : Nat → Value, (Array.range 0).map f = #[] := fun f => by simp
              rw [he] at h1
              simp only [Instr.buildSlice, Sem.run_bind, run_underlying hu, Result.andThen_ok, szT_run hsz, Nat.zero_mul, show ¬ (0 > 2 ^ 24) by omega, if_false, if_true, Sem.run_pure, he, h1]
              rfl
            · simp only [Instr.buildSlice, Sem.run_bind, run_underlying hu, Result.andThen_ok, szT_run hsz, show ¬ (n * sz > 2 ^ 24) by omega, if_false, hn, Sem.run_pure, hzv, hzs, h1]
              rfl
          have hsz' : vs'.size = n * sz := by
            have h3 := h2.size
            have hfl : ∀ (p : List (Nat × AV)) (c c' : List AV), fillAV (fun i => some (i * sz, sz)) c p = some c' → c'.length = c.length := by
              intro p
              induction p with
              | nil => intro c c' h; cases h; rfl
              | cons q r ih =>
                intro c c' h
                obtain ⟨i, x⟩ := q
                unfold fillAV at h
                split at h
                · split at h
                  · next hh => rw [ih _ _ h, setAt_length (by omega)]
                  · cases h
                · cases h
            rw [h3, hfl _ _ _ hfill, ← hcr.size]
            simp [hzs]
          have hgo : ∀ es : List D, es.length = n → (∀ e ∈ es, e.cells.length = sz ∧ ∀ d ∈ e.cells, d.one = true) → (∀ i j e d, es[i]? = some e → e.cells[j]? = some d → cs[i * sz + j]? = some (AV.d d)) →
              ∃ v w' β', (Instr.buildSlice T n vparts).run P w = .ok v w' ∧ Done O β X w ⟨.own (newName dst 0) sz, [(newName dst 0, .row sz es)], []⟩ v β' w' := by
            intro es hes hok hat
            have hrow := new_row (sz := sz) (es := es) hO (hl.none hlk) elem 0 0 (.inl rfl) hok (by rw [hes, hsz']; exact Nat.le_refl _)
              (fun i j e d hi hj => (h2.at_ _ _ (hat i j e d hi hj)).d_inv) (w.alloc (.cells vs' elem)) ((Evo.refl _ _).alloc _) (heap_alloc_new w _)
            refine ⟨_, _, _, hrun, Done.of_one hrow (.own _ _ _ (by simp [upd_same]) rfl fun sz2 len g hb => ?_)⟩
            rw [upd_same] at hb
            cases hb
            refine ⟨rfl, ?_⟩
            rw [hes]
            exact ownV_grown w (Nat.le_refl _) (by rw [hsz']; exact Nat.le_refl _)
          cases ag with
          | true =>
            simp only [if_true] at ha
            split at ha
            · next es hes =>
              simp only [true_or, if_true] at ha
              cases ha
              unfold elemsOf at hes
              split at hes
              · next ds hds =>
                split at hes
                · next hall =>
                  cases hes
                  have hcs := allD_spec hds
                  subst hcs
                  refine hgo _ (chunk_len _ _ _) (fun e he => ?_) (fun i j e d hi hj => ?_)
                  · obtain ⟨i, hi, rfl⟩ := List.getElem_of_mem he
                    obtain ⟨h4, h5⟩ := chunk_get (List.getElem?_eq_getElem hi)
                    rw [h4]
                    refine ⟨?_, fun d hd => List.all_eq_true.1 hall.1 d (List.mem_of_mem_drop (List.mem_of_mem_take hd))⟩
                    simp only [D.cells, List.length_take, List.length_drop, hall.2]
                    have : (i + 1) * sz ≤ n * sz := Nat.mul_le_mul_right _ h5
                    rw [Nat.succ_mul] at this
                    omega
                  · obtain ⟨h4, h5⟩ := chunk_get hi
                    rw [h4] at hj
                    simp only [D.cells] at hj
                    have hjs : j < sz := by
                      have := (List.getElem?_eq_some_iff.1 hj).1
                      simp at this
                      omega
                    rw [List.getElem?_take_of_lt hjs, List.getElem?_drop] at hj
                    rw [List.getElem?_map, hj]
                    rfl
                · cases hes
              · cases hes
            · cases ha
          | false =>
            simp only [Bool.false_eq_true, if_false, false_or] at ha hagsz
            split at ha
            · next es hes =>
              split at ha
              · next hall =>
                cases ha
                have hcs := allD_spec hes
                subst hcs
                subst hagsz
                have hone : ∀ e ∈ es, e.one = true := fun e he => List.all_eq_true.1 hall e he
                refine hgo es ?_ (fun e he => ?_) (fun i j e d hi hj => ?_)
                · have := h2.size
                  rw [hsz'] at this
                  simp at this
                  exact this.symm
                · rw [one_dcells (hone e he)]
                  exact ⟨rfl, fun d hd => by rw [List.mem_singleton.1 hd]; exact hone e he⟩
                · have he := List.mem_of_getElem? hi
                  rw [one_dcells (hone e he)] at hj
                  have hj0 : j = 0 := by
                    cases j with
                    | zero => rfl
                    | succ j => simp at hj
                  subst hj0
                  cases hj
                  simp [hi]
              · cases ha
            · cases ha
        · cases ha
      · cases ha
    · cases ha
  · cases ha

theorem actConvertBytes_ok {dst : Nat} {S T el : TypeId} {x : AV} {h : OH} {e : Eff} {vx : Value} (hO : Objs O β X w) (hl : Looks O look) (hx : AR O β X w x vx) (hs : P.underlying S = some .string) (ht : P.underlying T = some (.slice el))
    (ha : actConvert P dst S T x h look = some e) : ∃ v w' β', (convert S T vx).run P w = .ok v w' ∧ Done O β X w e v β' w' := by
  unfold actConvert at ha
  rw [hs, ht] at ha
  simp only at ha
  split at ha
  · next s hu hlk =>
    cases ha
    obtain rfl := hx.d_inv.str_inv
    have hrun := run_bytes_of_string (P := P) w S T el ⟨s.toArray⟩ hs ht hu
    have hge := grownCap_ge w (⟨s.toArray⟩ : ByteArray).size 0 el
    have hsz : (⟨s.toArray⟩ : ByteArray).size = s.length := by simp [ByteArray.size]
    rw [hsz] at hge hrun
    have hbsz : (bytesRow ⟨s.toArray⟩ (grownCap w s.length 0 el)).size = grownCap w s.length 0 el := by
      simp [bytesRow, ByteArray.size]
      omega
    have hget : ∀ i c, s[i]? = some c → (bytesRow ⟨s.toArray⟩ (grownCap w s.length 0 el)).getD i undef = .int .u8 c.toNat := by
      intro i c hi
      have hlt := (List.getElem?_eq_some_iff.1 hi).1
      obtain ⟨h1, h2⟩ := List.getElem?_eq_some_iff.1 hi
      simp only [bytesRow, Array.getD_eq_getD_getElem?]
      rw [Array.getElem?_append_left (by simpa using hlt)]
      simp [h1, h2]
    have hrow := new_row (sz := 1) (es := s.map byteD) hO (hl.none hlk) el _ _ (.inr (Nat.le_refl _))
      (fun e he => by
        obtain ⟨c, -, rfl⟩ := List.mem_map.1 he
        exact ⟨rfl, fun d hd => by rw [byteD_cells] at hd; rw [List.mem_singleton.1 hd]; rfl⟩)
      (by rw [hbsz]; simpa using hge)
      (fun i j e d h1 h2 => by
        rw [List.getElem?_map] at h1
        cases hc : s[i]? with
        | none => rw [hc] at h1; cases h1
        | some c =>
          rw [hc] at h1
          cases h1
          rw [byteD_cells] at h2
          have hj0 : j = 0 := by
            cases j with
            | zero => rfl
            | succ j => simp at h2
          subst hj0
          cases h2
          simp only [Nat.mul_one, Nat.add_zero]
          rw [hget i c hc]
          exact .int _ _)
      _ (((Evo.refl _ w).drew).alloc (.cells (bytesRow ⟨s.toArray⟩ (grownCap w s.length 0 el)) el ((bytesRow ⟨s.toArray⟩ (grownCap w s.length 0 el)).size, (bytesRow ⟨s.toArray⟩ (grownCap w s.length 0 el)).size + 1))) (heap_alloc_new w.drew _)
    refine ⟨_, _, _, hrun, Done.of_one hrow (.own _ _ _ (by simp [upd_same]) rfl fun sz2 len g hb => ?_)⟩
    rw [upd_same] at hb
    cases hb
    refine ⟨rfl, ?_⟩
    simp only [List.length_map]
    exact ownV_grown w hge (by rw [hbsz]; simp)
  · cases ha
/-- A row of bytes goes on as it is: one place behind its last cell is marked. -/
theorem actConvertMark_ok {dst : Nat} {S T el el' : TypeId} {x : AV} {h : OH} {e : Eff} {vx : Value} (hO : Objs O β X w) (hl : Looks O look) (hx : AR O β X w x vx) (hs : P.underlying S = some (.slice el)) (ht : P.underlying T = some (.slice el'))
    (ha : actConvert P dst S T x h look = some e) (hob : ∀ p ∈ e.obs, p) : ∃ v w' β', (convert S T vx).run P w = .ok v w' ∧ Done O β X w e v β' w' := by
  unfold actConvert at ha
  rw [hs, ht] at ha
  simp only at ha
  split at ha
  · next o sz hu =>
    split at ha
    · next szr es hlk =>
      split at ha
      · next hST =>
        cases ha
        subst hST
        rw [hs] at ht
        cases ht
        have hne : es ≠ [] := hob _ (by simp)
        have hOn := hl.row hlk
        rcases hO.row hOn with ⟨hes, -⟩ | ⟨b, cur, t, lo, hi, hβ, hb, hf, hsz2, hlen, hr⟩
        · exact absurd hes hne
        · cases hx with
          | own o sz v hC hone hv =>
            obtain ⟨hsz, a, c, rfl, hnc, hbk⟩ := hv _ _ _ hβ
            obtain ⟨b', cnt, hg, had, hle⟩ := hbk (by have := List.length_pos_iff.2 hne; omega)
            cases hg
            have had2 : a = some ⟨b, 0, none⟩ := by rw [had]; simp
            subst had2
            have hsh : w.shape? b = some (t, cur.size) := by unfold World.shape?; rw [hb]
            have hrun : (convert S S (.slice (some ⟨b, 0, none⟩) es.length c)).run P w = .ok (.slice (some ⟨b, 0, none⟩) es.length c) (w.freeze ⟨b, cur.size, none⟩ 1) := by
              simp [convert, run_underlying hs, run_underlying hu, markStringish, hsh]
            have hblk := (Array.getElem?_eq_some_iff.1 hb).1
            have hheap : ∀ k, (w.freeze ⟨b, cur.size, none⟩ 1).heap[k]? = if k = b then some (.cells cur t (if lo == hi then (cur.size, cur.size + 1) else (min lo cur.size, max hi (cur.size + 1)))) else w.heap[k]? := by
              intro k
              unfold World.freeze
              rw [if_neg (by decide)]
              simp only [Array.getElem?_modify]
              by_cases hk : k = b
              · subst hk; simp [hb]
              · rw [if_neg (Ne.symm hk), if_neg hk]
            have hevo : Evo (fun x => x = b) w (w.freeze ⟨b, cur.size, none⟩ 1) := by
              refine ⟨?_, ?_, ?_, ?_, fun k _ hk => ?_⟩
              · unfold World.freeze; rw [if_neg (by decide)]
              · unfold World.freeze; rw [if_neg (by decide)]
              · unfold World.freeze; rw [if_neg (by decide)]
              · unfold World.freeze; rw [if_neg (by decide)]; simp
              · rw [hheap k, if_neg hk]
            obtain ⟨lo', hi', hfz, hb2⟩ : ∃ lo' hi', Fz lo' hi' cur.size ∧ (w.freeze ⟨b, cur.size, none⟩ 1).heap[b]? = some (.cells cur t (lo', hi')) := by
              rw [hheap b, if_pos rfl]
              by_cases hlh : lo = hi
              · exact ⟨cur.size, cur.size + 1, .inr (Nat.le_refl _), by simp [hlh]⟩
              · refine ⟨min lo cur.size, max hi (cur.size + 1), .inr (Nat.le_min.2 ⟨hf.resolve_left hlh, Nat.le_refl _⟩), by simp [hlh]⟩
            have hw := hO.write (ob := .row szr es) (by rw [hOn]; simp) (by rw [hβ]; rfl) hevo (by simp) fun hst => by
              rw [hβ]
              exact .row szr es b cur t lo' hi' hb2 hfz hsz2 hlen fun i j e d h1 h2 => hst.repd (hr i j e d h1 h2)
            exact ⟨_, _, _, hrun, Done.of_one hw (hw.2.rav (.own o sz _ hC hone hv))⟩
      · cases ha
    · cases ha
  · cases ha
end
end Sx
end Go.Proofs.Ytfllhedkgeljaaa
