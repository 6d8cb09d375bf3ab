/-
One operation, on abstract values, says what the operation does in memory: conversions, slices, lengths, struct literals. No condition.
-/
import Derived.Test.YtfllhedkgeljaaaSxd
set_option linter.unusedSimpArgs false
set_option linter.unusedVariables false
namespace Go.Proofs.Ytfllhedkgeljaaa
namespace Sx
open Go.RowKit
section
variable {P : Program} {O : Nat → Ob} {β : Nat → HE} {X : Nat → Prop} {w : World} {look : Nat → Ob}

theorem actUn_ok {op : UnOp} {x : AV} {e : Eff} {vx : Value} (hx : AR O β X w x vx) (ha : actUn op x = some e) :
    ∃ v, (Op.unary op vx).run P w = .ok v w ∧ AR O β X w e.val v ∧ e.wr = [] := by
  unfold actUn at ha
  split at ha
  · cases ha; obtain rfl := hx.d_inv.int_inv; exact ⟨_, by simp only [Op.unary, Op.intArith]; rfl, .d _ _ (.int _ _), rfl⟩
  · cases ha; obtain rfl := hx.d_inv.int_inv; exact ⟨_, by simp only [Op.unary, Op.intBits]; rfl, .d _ _ (.int _ _), rfl⟩
  · cases ha; obtain rfl := hx.d_inv.bool_inv; exact ⟨_, by simp only [Op.unary]; rfl, .d _ _ (.bool _), rfl⟩
  · cases ha

/-- The elements that a slice value has, in memory: from `ad` on, `sz` cells each. -/
structure Elems (O : Nat → Ob) (β : Nat → HE) (X : Nat → Prop) (w : World) (sz : Nat) (es : List D) (a : Option Addr) : Prop where
  ok : ∀ e ∈ es, e.cells.length = sz ∧ ∀ d ∈ e.cells, d.one = true
  at_ : es ≠ [] → ∃ (ad : Addr) (f : Nat → Nat → Value), a = some ad ∧ ad.block < w.heap.size ∧ (∀ i j, i < es.length → j < sz → w.cell? (ad.add (i * sz + j)) = some (f i j)) ∧
    ∀ i j e d, es[i]? = some e → e.cells[j]? = some d → RepD w (Mset X β) d (f i j)

theorem row_cells {sz : Nat} {es : List D} {b : Nat} {cur : Array Value} {t lo hi : Nat} (hb : w.heap[b]? = some (.cells cur t (lo, hi))) (hl : es.length * sz ≤ cur.size) {i j : Nat} (hi' : i < es.length) (hj : j < sz) :
    w.cell? ((Addr.mk b 0 none).add (i * sz + j)) = some (cur.getD (i * sz + j) undef) := by
  rw [add_mk, Nat.zero_add]
  refine cellIn hb ?_
  have : (i + 1) * sz ≤ es.length * sz := Nat.mul_le_mul_right _ hi'
  rw [Nat.succ_mul] at this
  omega

theorem rowOf_ok {x : AV} {es : List D} {vx : Value} (hO : Objs O β X w) (hl : Looks O look) (hx : AR O β X w x vx) (h : rowOf x look = some es) :
    ∃ a c sz, vx = .slice a es.length c ∧ Elems O β X w sz es a ∧ es.length ≤ c ∧ (∀ ad, a = some ad → es ≠ [] → ¬ Mset X β ad.block ∨ Tset β ad.block) := by
  unfold rowOf at h
  split at h
  · next es' =>
    cases h
    cases hx.d_inv with
    | nil a c => exact ⟨a, c, 0, rfl, ⟨by simp, by simp⟩, Nat.zero_le _, fun _ _ h => absurd rfl h⟩
    | sl es a c sz f hn hb hM hsz hc hr => exact ⟨some a, c, sz, rfl, ⟨hsz, fun _ => ⟨a, f, rfl, hb, hc, hr⟩⟩, hn, fun ad had _ => by cases had; exact .inl hM⟩
  · next o sz =>
    split at h
    · next szr es' hlk =>
      cases h
      cases hx with
      | own o sz v hC hone hv =>
        rcases hO.row (hl.row hlk) with ⟨hes, hβ⟩ | ⟨b, cur, t, lo, hi, hβ, hb, -, hsz2, hlen, hr⟩
        · subst hes
          obtain ⟨-, a, c, rfl, -, -⟩ := hv _ _ _ hβ
          exact ⟨a, c, 0, rfl, ⟨by simp, by simp⟩, Nat.zero_le _, fun _ _ h => absurd rfl h⟩
        · obtain ⟨rfl, a, c, rfl, hnc, hbk⟩ := hv _ _ _ hβ
          refine ⟨a, c, szr, rfl, ⟨hsz2, fun hne => ?_⟩, hnc, fun ad had hne => ?_⟩
          · obtain ⟨b', cnt, hg, rfl, hle⟩ := hbk (by have := List.length_pos_iff.2 hne; omega)
            cases hg
            refine ⟨_, fun i j => cur.getD (i * szr + j) undef, rfl, (Array.getElem?_eq_some_iff.1 hb).1, fun i j hi' hj => ?_, hr⟩
            simpa using row_cells hb hlen hi' hj
          · obtain ⟨b', cnt, hg, rfl, hle⟩ := hbk (by have := List.length_pos_iff.2 hne; omega)
            cases hg
            cases had
            exact .inr ⟨o, by rw [hβ]; rfl⟩
    · cases h
  · next o sz lo n =>
    split at h
    · next szr es' hlk =>
      cases h
      cases hx with
      | sub o sz lo n v hC hone hv =>
        rcases hO.row (hl.row hlk) with ⟨hes, hβ⟩ | ⟨b, cur, t, lo', hi, hβ, hb, -, hsz2, hlen, hr⟩
        · subst hes
          obtain ⟨-, hle, a, c, rfl, -, -⟩ := hv _ _ _ hβ
          have : n = 0 := by omega
          subst this
          exact ⟨a, c, 0, by simp, ⟨by simp, by simp⟩, by simp, fun _ _ h => absurd (by simp) h⟩
        · obtain ⟨rfl, hle, a, c, rfl, hnc, hbk⟩ := hv _ _ _ hβ
          have hlen2 : ((es'.drop lo).take n).length = n := by simp; omega
          refine ⟨a, c, szr, by rw [hlen2], ⟨fun e he => hsz2 e (List.mem_of_mem_drop (List.mem_of_mem_take he)), fun hne => ?_⟩, by rw [hlen2]; exact hnc, fun ad had hne => by
            have hn0 : 0 < n := by rw [← hlen2]; exact List.length_pos_iff.2 hne
            obtain ⟨b', cnt, hg, rfl, hle2⟩ := hbk (by omega)
            cases hg
            cases had
            exact .inr ⟨o, by rw [hβ]; rfl⟩⟩
          have hn0 : 0 < n := by rw [← hlen2]; exact List.length_pos_iff.2 hne
          obtain ⟨b', cnt, hg, rfl, hle2⟩ := hbk (by omega)
          cases hg
          refine ⟨_, fun i j => cur.getD ((lo + i) * szr + j) undef, rfl, (Array.getElem?_eq_some_iff.1 hb).1, fun i j hi' hj => ?_, fun i j e d h1 h2 => ?_⟩
          · rw [hlen2] at hi'
            have := row_cells (w := w) hb hlen (i := lo + i) (j := j) (by omega) hj
            rw [add_mk, Nat.zero_add] at this
            rw [add_mk, ← Nat.add_assoc, ← Nat.add_mul]
            exact this
          · refine hr (lo + i) j e d ?_ h2
            have hin : i < n := by
              have := (List.getElem?_eq_some_iff.1 h1).1
              rw [hlen2] at this; exact this
            rw [List.getElem?_take_of_lt hin, List.getElem?_drop] at h1
            exact h1
    · cases h
  · next a c =>
    cases h
    obtain rfl := hx.raw_inv
    exact ⟨a, c, 0, rfl, ⟨by simp, by simp⟩, Nat.zero_le _, fun _ _ h => absurd rfl h⟩
  · cases h

theorem byteD_cells (c : UInt8) : (byteD c).cells = [byteD c] := rfl

/-- The bytes of a slice as cells. -/
theorem bytes_cells {s : List UInt8} {a : Option Addr} {sz : Nat} (h : Elems O β X w sz (s.map byteD) a) (hs : s ≠ []) :
    ∃ ad : Addr, a = some ad ∧ ∀ j, j < s.length → w.cell? (ad.add j) = some (.int .u8 (s.getD j 0).toNat) := by
  obtain ⟨ad, f, rfl, -, hc, hr⟩ := h.at_ (by simpa using hs)
  have hsz : sz = 1 := by
    obtain ⟨c, r, rfl⟩ := List.exists_cons_of_ne_nil hs
    exact (h.ok (byteD c) (by simp)).1.symm
  subst hsz
  refine ⟨ad, rfl, fun j hj => ?_⟩
  have h1 := hc j 0 (by simpa using hj) (by omega)
  simp only [Nat.mul_one, Nat.add_zero] at h1
  have h2 := hr j 0 (byteD s[j]) (byteD s[j]) (by simp [hj]) (by rw [byteD_cells]; rfl)
  rw [h1, h2.int_inv]
  simp [List.getD_eq_getElem?_getD, hj]

theorem pushAll (s : List UInt8) (acc : ByteArray) : ((s.map fun c => (c.toNat : Int)).foldl (fun r n => r.push (UInt8.ofNat n.toNat)) acc) = acc ++ ⟨s.toArray⟩ := by
  induction s generalizing acc with
  | nil => apply ByteArray.ext; simp
  | cons c r ih =>
    rw [List.map_cons, List.foldl_cons, ih]
    apply ByteArray.ext
    simp [ByteArray.push]

theorem bytesToString_ok {s : List UInt8} {a : Option Addr} {c : Nat} {sz : Nat} (h : Elems O β X w sz (s.map byteD) a) : (Conv.bytesToString (.slice a s.length c)).run P w = .ok (.string ⟨s.toArray⟩) w := by
  by_cases hs : s = []
  · subst hs
    cases a with
    | none => rfl
    | some ad => simp [Conv.bytesToString, loadCells, loadCellsFrom]; rfl
  · obtain ⟨ad, rfl, hc⟩ := bytes_cells h hs
    rw [run_bytesToString w ad s.length c (s.map fun c => (c.toNat : Int))]
    · rw [pushAll]
      congr 2
    · have := run_loadCells (P := P) w ad s.length (fun j => .int .u8 (s.getD j 0).toNat) hc
      rw [this]
      congr 1
      apply Array.ext'
      simp only [List.map_map]
      apply List.ext_getElem
      · simp
      · intro i h1 h2
        simp at h1
        simp [List.getD_eq_getElem?_getD, h1]

theorem actConvert_ok {dst : Nat} {S T : TypeId} {x : AV} {h : OH} {e : Eff} {vx : Value} (hO : Objs O β X w) (hl : Looks O look) (hx : AR O β X w x vx) (ha : actConvert P dst S T x h look = some e) (hob : ∀ p ∈ e.obs, p)
    (hns : ∀ el, ¬ (P.underlying S = some .string ∧ P.underlying T = some (.slice el))) (hnm : ∀ el el', ¬ (P.underlying S = some (.slice el) ∧ P.underlying T = some (.slice el'))) :
    ∃ v, (convert S T vx).run P w = .ok v w ∧ AR O β X w e.val v ∧ e.wr = [] := by
  unfold actConvert at ha
  split at ha
  · next k0 k hs ht =>
    split at ha
    · cases ha
      obtain rfl := hx.d_inv.int_inv
      exact ⟨_, by simp only [convert, Sem.run_bind, run_underlying hs, run_underlying ht, Result.andThen_ok, Conv.intToInt]; rfl, .d _ _ (.int _ _), rfl⟩
    · cases ha
  · next hs ht =>
    split at ha
    · cases ha
      obtain rfl := hx.d_inv.str_inv
      exact ⟨_, by simp only [convert, Sem.run_bind, run_underlying hs, run_underlying ht, Result.andThen_ok]; rfl, .d _ _ (.str _), rfl⟩
    · cases ha
  · next el hs ht => exact absurd ⟨hs, ht⟩ (hns el)
  · next el hs ht =>
    split at ha
    · next es s hu hes =>
      cases ha
      have he : es = s.map byteD := hob _ (by simp)
      subst he
      obtain ⟨a, c, sz, rfl, hE, -⟩ := rowOf_ok hO hl hx hes
      refine ⟨_, ?_, .d _ _ (.str s), rfl⟩
      have := bytesToString_ok (P := P) (c := c) hE
      simp only [convert, Sem.run_bind, run_underlying hs, run_underlying ht, run_underlying hu, Result.andThen_ok, List.length_map]
      exact this
    · cases ha
  · next el el' hs ht => exact absurd ⟨hs, ht⟩ (hnm el el')
  · cases ha

/-- An operand that may lack. -/
def OptR (O : Nat → Ob) (β : Nat → HE) (X : Nat → Prop) (w : World) : Option AV → Option Value → Prop
  | none, none => True
  | some x, some v => AR O β X w x v
  | _, _ => False

theorem bound_ok {x : Option AV} {v : Option Value} {dflt i : Int} (h : bound x dflt = some i) (hx : OptR O β X w x v) : (v = none ∧ i = dflt) ∨ ∃ k, v = some (.int k i) := by
  unfold bound at h
  split at h
  · cases h
    cases v with
    | none => exact .inl ⟨rfl, rfl⟩
    | some v => exact hx.elim
  · cases h
    cases v with
    | none => exact hx.elim
    | some v => obtain rfl := RepD.int_inv (RAV.d_inv hx); exact .inr ⟨_, rfl⟩
  · cases h

theorem sliceBounds_in {lo hi : Option AV} {vlo vhi : Option Value} {isS : Bool} {len cap : Nat} {l h : Int} (hlo : bound lo 0 = some l) (hhi : bound hi len = some h)
    (xlo : OptR O β X w lo vlo) (xhi : OptR O β X w hi vhi) (h0 : 0 ≤ l) (h1 : l ≤ h) (h2 : h ≤ cap) :
    (Instr.sliceBounds isS len cap vlo vhi none).run P w = .ok (l.toNat, h.toNat, cap) w := by
  have hb : ∀ (v : Value) (y : Nat) (code : BoundsCode) (k : IntKind) (i : Int), v = .int k i → 0 ≤ i → i ≤ y → (Instr.sliceBound v y code).run P w = .ok i.toNat w := by
    rintro v y code k i rfl g0 g1
    simp [Instr.sliceBound, asIntOf, g0, g1]
  rcases bound_ok hhi xhi with ⟨rfl, rfl⟩ | ⟨k, rfl⟩
  · rcases bound_ok hlo xlo with ⟨rfl, rfl⟩ | ⟨k, rfl⟩
    · simp [Instr.sliceBounds]
    · have := hb _ len (if (none : Option Value).isSome = true then .slice3C else .sliceB) k l rfl h0 h1
      simp only [Option.isSome_none, Bool.false_eq_true, if_false] at this
      simp [Instr.sliceBounds, this]
  · have e1 := hb _ cap (if isS = true then .sliceAcap else .sliceAlen) k h rfl (by omega) (by omega)
    rcases bound_ok hlo xlo with ⟨rfl, rfl⟩ | ⟨k, rfl⟩
    · simp [Instr.sliceBounds, e1]
    · have := hb _ h.toNat .sliceB k l rfl h0 (by omega)
      simp [Instr.sliceBounds, e1, this]
theorem sliceBounds_ok {lo hi : Option AV} {vlo vhi : Option Value} {isS : Bool} {len cap : Nat} {l h : Int} (hlo : bound lo 0 = some l) (hhi : bound hi len = some h)
    (xlo : OptR O β X w lo vlo) (xhi : OptR O β X w hi vhi) (h0 : 0 ≤ l) (h1 : l ≤ h) (h2 : h ≤ len) (hc : len ≤ cap) :
    (Instr.sliceBounds isS len cap vlo vhi none).run P w = .ok (l.toNat, h.toNat, cap) w :=
  sliceBounds_in hlo hhi xlo xhi h0 h1 (by omega)
theorem sliceBounds_three {lo : Option AV} {ah am : AV} {vlo : Option Value} {vh vm : Value} {len cap : Nat} {l h m : Int} (hlo : bound lo 0 = some l) (hhi : bound (some ah) 0 = some h) (hmx : bound (some am) 0 = some m)
    (xlo : OptR O β X w lo vlo) (xhi : OptR O β X w (some ah) (some vh)) (xmx : OptR O β X w (some am) (some vm)) (h0 : 0 ≤ l) (h1 : l ≤ h) (h2 : h ≤ m) (hc : m ≤ cap) :
    (Instr.sliceBounds true len cap vlo (some vh) (some vm)).run P w = .ok (l.toNat, h.toNat, m.toNat) w := by
  have hb : ∀ (v : Value) (y : Nat) (code : BoundsCode) (k : IntKind) (i : Int), v = .int k i → 0 ≤ i → i ≤ y → (Instr.sliceBound v y code).run P w = .ok i.toNat w := by
    rintro v y code k i rfl g0 g1
    simp [Instr.sliceBound, asIntOf, g0, g1]
  rcases bound_ok hhi xhi with ⟨h3, -⟩ | ⟨k, e⟩
  · cases h3
  · cases e
    rcases bound_ok hmx xmx with ⟨h3, -⟩ | ⟨k2, e⟩
    · cases h3
    · cases e
      have e1 := hb _ cap .slice3Acap k2 m rfl (by omega) (by omega)
      have e2 := hb _ m.toNat .slice3B k h rfl (by omega) (by omega)
      rcases bound_ok hlo xlo with ⟨rfl, rfl⟩ | ⟨k3, rfl⟩
      · simp [Instr.sliceBounds, e1, e2]
      · have := hb _ h.toNat .slice3C k3 l rfl h0 (by omega)
        simp [Instr.sliceBounds, e1, e2, this]

theorem slice_own {sz l n c : Nat} {g : Option (Nat × Nat)} {lo : Nat} {a : Option Addr} (hbk : 0 < c → ∃ b cnt, g = some (b, cnt) ∧ a = some ⟨b, lo * sz, none⟩ ∧ (lo + c) * sz ≤ cnt) (hle : l + n ≤ c) :
    OwnV g sz (lo + l) n (.slice (if c = l then a else a.map (·.add (l * sz))) n (c - l)) := by
  have h1 : n ≤ c - l := by omega
  have h2 : lo + l + (c - l) = lo + c := by omega
  refine ⟨_, _, rfl, h1, fun hpos => ?_⟩
  have h3 : ¬ c = l := by omega
  have h4 : 0 < c := by omega
  obtain ⟨b, cnt, hg, rfl, hfit⟩ := hbk h4
  refine ⟨b, cnt, hg, ?_, by rw [h2]; exact hfit⟩
  rw [if_neg h3]
  simp [add_mk, Nat.add_mul]

theorem actSlice_ok {T : TypeId} {x : AV} {lo hi mx : Option AV} {vlo vhi vmx : Option Value} {e : Eff} {vx : Value} (hO : Objs O β X w) (hl : Looks O look) (hx : AR O β X w x vx)
    (xlo : OptR O β X w lo vlo) (xhi : OptR O β X w hi vhi) (xmx : OptR O β X w mx vmx) (ha : actSlice P T x lo hi mx look = some e) (hob : ∀ p ∈ e.obs, p) :
    ∃ v, (Instr.sliceAt T vx vlo vhi vmx).run P w = .ok v w ∧ AR O β X w e.val v ∧ e.wr = [] := by
  unfold actSlice at ha
  split at ha
  · next m =>
    cases vmx with
    | none => exact xmx.elim
    | some vm =>
    split at ha
    · next elem es hu =>
      split at ha
      · next ah =>
        split at ha
        case h_2 => cases ha
        next sz l h k hsz hlo hhi hmx =>
        cases ha
        have hb : 0 ≤ l ∧ l ≤ h ∧ h ≤ k ∧ k ≤ es.length := hob _ (by simp)
        have hcs : ∀ e ∈ es, e.cells.length = sz := hob _ (by simp)
        have hlen : ((es.take h.toNat).drop l.toNat).length = h.toNat - l.toNat := by simp; omega
        cases vhi with
        | none => exact xhi.elim
        | some vh =>
        cases hx.d_inv with
        | nil a c =>
          simp at hb
          have := sliceBounds_three (P := P) (len := 0) (cap := c) hlo hhi hmx xlo xhi xmx hb.1 hb.2.1 hb.2.2.1 (by omega)
          have hl0 : l = 0 := by omega
          have hh0 : h = 0 := by omega
          subst hl0 hh0
          refine ⟨_, by simp only [Instr.sliceAt, Sem.run_bind, run_underlying hu, Result.andThen_ok, Instr.slice, this, szT_run hsz]; rfl, .d _ _ ?_, rfl⟩
          simp
          exact .nil _ _
        | sl es a c sz' f hn hbk hM hsz' hc hr =>
          have := sliceBounds_three (P := P) (len := es.length) (cap := c) hlo hhi hmx xlo xhi xmx hb.1 hb.2.1 hb.2.2.1 (by omega)
          refine ⟨_, by simp only [Instr.sliceAt, Sem.run_bind, run_underlying hu, Result.andThen_ok, Instr.slice, this, szT_run hsz]; rfl, .d _ _ ?_, rfl⟩
          by_cases hlh : l.toNat = h.toNat
          · have he : (es.take h.toNat).drop l.toNat = [] := List.eq_nil_of_length_eq_zero (by rw [hlen]; omega)
            rw [he, hlh, Nat.sub_self]
            exact .nil _ _
          · have hss : sz' = sz := by
              have hne : es ≠ [] := by rintro rfl; simp at hb; omega
              obtain ⟨e0, r, rfl⟩ := List.exists_cons_of_ne_nil hne
              rw [← hcs e0 (by simp), (hsz' e0 (by simp)).1]
            subst hss
            rw [if_neg (by omega), ← hlen]
            refine .sl _ _ _ sz' (fun i j => f (l.toNat + i) j) (by rw [hlen]; omega) (by rw [block_add]; exact hbk) (by rw [block_add]; exact hM)
              (fun e he => hsz' e (List.mem_of_mem_take (List.mem_of_mem_drop he))) (fun i j hi' hj => ?_) (fun i j e d h1 h2 => ?_)
            · rw [hlen] at hi'
              rw [add_add, ← Nat.add_assoc, ← Nat.add_mul]
              exact hc (l.toNat + i) j (by omega) hj
            · refine hr (l.toNat + i) j e d ?_ h2
              rw [List.getElem?_drop] at h1
              have hlt := (List.getElem?_eq_some_iff.1 h1).1
              rw [List.length_take] at hlt
              rwa [List.getElem?_take_of_lt (by omega)] at h1
      · cases ha
    · next elem o sz hu =>
      split at ha
      · next szr es sz' hlk hsz =>
        split at ha
        · next ah =>
          split at ha
          case h_2 => cases ha
          next l h k hlo hhi hmx =>
          cases ha
          have hb : 0 ≤ l ∧ l ≤ h ∧ h ≤ k ∧ k ≤ es.length := hob _ (by simp)
          cases vhi with
          | none => exact xhi.elim
          | some vh =>
          have hβe : ∃ g, β o = .row szr es.length g := by
            rcases hO.row (hl.row hlk) with ⟨rfl, hβ⟩ | ⟨b, cur, t, lo, hi, hβ, -⟩
            · exact ⟨_, hβ⟩
            · exact ⟨_, hβ⟩
          obtain ⟨g, hβ⟩ := hβe
          cases hx with
          | own o sz v hC hone hv =>
            obtain ⟨rfl, a, c, rfl, hnc, hbk⟩ := hv _ _ _ hβ
            have := sliceBounds_three (P := P) (len := es.length) (cap := c) hlo hhi hmx xlo xhi xmx hb.1 hb.2.1 hb.2.2.1 (by omega)
            exact ⟨_, by simp only [Instr.sliceAt, Sem.run_bind, run_underlying hu, Result.andThen_ok, Instr.slice, this, szT_run hsz]; rfl, .dead _, rfl⟩
        · cases ha
      · cases ha
    · cases ha
  · cases vmx with
    | some v => exact xmx.elim
    | none =>
    split at ha
    · next s hu =>
      split at ha
      · next l h hlo hhi =>
        cases ha
        have hb : 0 ≤ l ∧ l ≤ h ∧ h ≤ s.length := hob _ (by simp)
        obtain rfl := hx.d_inv.str_inv
        have hsz : (⟨s.toArray⟩ : ByteArray).size = s.length := by simp [ByteArray.size]
        have := sliceBounds_ok (P := P) (isS := false) (cap := s.length) hlo hhi xlo xhi hb.1 hb.2.1 hb.2.2 (Nat.le_refl _)
        refine ⟨.string ((⟨s.toArray⟩ : ByteArray).extract l.toNat h.toNat), ?_, ?_, rfl⟩
        · simp [Instr.sliceAt, run_underlying hu, Instr.slice, hsz, this]
        · have e : (⟨s.toArray⟩ : ByteArray).extract l.toNat h.toNat = ⟨((s.take h.toNat).drop l.toNat).toArray⟩ := by
            apply ByteArray.ext
            simp only [ByteArray.data_extract]
            apply Array.ext'
            simp [List.extract, List.drop_take]
          rw [e]
          exact .d _ _ (.str _)
      · cases ha
    · next elem es hu =>
      split at ha
      · next sz l h hsz hlo hhi =>
        cases ha
        have hb : 0 ≤ l ∧ l ≤ h ∧ h ≤ es.length := hob _ (by simp)
        have hcs : ∀ e ∈ es, e.cells.length = sz := hob _ (by simp)
        have hlen : ((es.take h.toNat).drop l.toNat).length = h.toNat - l.toNat := by simp; omega
        cases hx.d_inv with
        | nil a c =>
          simp at hb
          have hl0 : l = 0 := by omega
          have hh0 : h = 0 := by omega
          subst hl0 hh0
          have := sliceBounds_ok (P := P) (isS := true) (cap := c) hlo hhi xlo xhi (by omega) (by omega) (by simp) (Nat.zero_le c)
          simp only [List.length_nil] at this
          refine ⟨_, by simp only [Instr.sliceAt, Sem.run_bind, run_underlying hu, Result.andThen_ok, Instr.slice, this, szT_run hsz]; rfl, .d _ _ ?_, rfl⟩
          simp
          exact .nil _ _
        | sl es a c sz' f hn hbk hM hsz' hc hr =>
          have := sliceBounds_ok (P := P) (isS := true) (cap := c) hlo hhi xlo xhi hb.1 hb.2.1 hb.2.2 hn
          refine ⟨_, by simp only [Instr.sliceAt, Sem.run_bind, run_underlying hu, Result.andThen_ok, Instr.slice, this, szT_run hsz]; rfl, .d _ _ ?_, rfl⟩
          by_cases hlh : l.toNat = h.toNat
          · have he : (es.take h.toNat).drop l.toNat = [] := List.eq_nil_of_length_eq_zero (by rw [hlen]; omega)
            rw [he, hlh, Nat.sub_self]
            exact .nil _ _
          · have hss : sz' = sz := by
              have hne : es ≠ [] := by rintro rfl; simp at hb; omega
              obtain ⟨e0, r, rfl⟩ := List.exists_cons_of_ne_nil hne
              rw [← hcs e0 (by simp), (hsz' e0 (by simp)).1]
            subst hss
            rw [if_neg (by omega), ← hlen]
            refine .sl _ _ _ sz' (fun i j => f (l.toNat + i) j) (by rw [hlen]; omega) (by rw [block_add]; exact hbk) (by rw [block_add]; exact hM)
              (fun e he => hsz' e (List.mem_of_mem_take (List.mem_of_mem_drop he))) (fun i j hi' hj => ?_) (fun i j e d h1 h2 => ?_)
            · rw [hlen] at hi'
              rw [add_add, ← Nat.add_assoc, ← Nat.add_mul]
              exact hc (l.toNat + i) j (by omega) hj
            · refine hr (l.toNat + i) j e d ?_ h2
              rw [List.getElem?_drop] at h1
              have hlt := (List.getElem?_eq_some_iff.1 h1).1
              rw [List.length_take] at hlt
              rwa [List.getElem?_take_of_lt (by omega)] at h1
      · cases ha
    · next elem o sz hu =>
      split at ha
      · next szr es sz' hlk hsz =>
        split at ha
        · next l h hlo hhi =>
          split at ha
          · next hss =>
            subst hss
            cases ha
            have hb : 0 ≤ l ∧ l ≤ h ∧ h ≤ es.length := hob _ (by simp)
            have hβe : ∃ g, β o = .row szr es.length g := by
              rcases hO.row (hl.row hlk) with ⟨rfl, hβ⟩ | ⟨b, cur, t, lo, hi, hβ, -⟩
              · exact ⟨_, hβ⟩
              · exact ⟨_, hβ⟩
            obtain ⟨g, hβ⟩ := hβe
            cases hx with
            | own o sz v hC hone hv =>
              obtain ⟨rfl, a, c, rfl, hnc, hbk⟩ := hv _ _ _ hβ
              have := sliceBounds_ok (P := P) (isS := true) (cap := c) hlo hhi xlo xhi hb.1 hb.2.1 hb.2.2 hnc
              refine ⟨_, by simp only [Instr.sliceAt, Sem.run_bind, run_underlying hu, Result.andThen_ok, Instr.slice, this, szT_run hsz]; rfl, .sub _ _ _ _ _ hC rfl fun sz2 len g2 hb2 => ?_, rfl⟩
              rw [hβ] at hb2
              cases hb2
              refine ⟨rfl, ⟨by omega, fun a2 n2 c2 he => by cases he; omega⟩, ?_⟩
              have h3 := slice_own (l := l.toNat) (n := (h - l).toNat) hbk (by omega)
              rw [show h.toNat - l.toNat = (h - l).toNat by omega]
              simpa using h3
          · cases ha
        · cases ha
      · cases ha
    · next elem o sz l0 n hu =>
      split at ha
      · next szr es sz' hlk hsz =>
        split at ha
        · next l h hlo hhi =>
          split at ha
          · next hss =>
            subst hss
            cases ha
            have hb : 0 ≤ l ∧ l ≤ h ∧ (h ≤ n ∨ l0 + h ≤ es.length) := hob _ (by simp)
            have hβe : ∃ g, β o = .row szr es.length g := by
              rcases hO.row (hl.row hlk) with ⟨rfl, hβ⟩ | ⟨b, cur, t, lo, hi, hβ, -⟩
              · exact ⟨_, hβ⟩
              · exact ⟨_, hβ⟩
            obtain ⟨g, hβ⟩ := hβe
            cases hx with
            | sub o sz l0 n v hC hone hv =>
              obtain ⟨rfl, hln, a, c, rfl, hnc, hbk⟩ := hv _ _ _ hβ
              have hcap := hln.2 _ _ _ rfl
              have hln1 := hln.1
              have f1 : h ≤ c := by clear hbk hln; omega
              have f2 : l0 + l.toNat + (h - l).toNat ≤ es.length := by clear hbk hln; omega
              have f3 : es.length ≤ l0 + l.toNat + (c - l.toNat) := by clear hbk hln; omega
              have f4 : l.toNat + (h - l).toNat ≤ c := by clear hbk hln; omega
              have := sliceBounds_in (P := P) (isS := true) (cap := c) hlo hhi xlo xhi hb.1 hb.2.1 f1
              refine ⟨_, by simp only [Instr.sliceAt, Sem.run_bind, run_underlying hu, Result.andThen_ok, Instr.slice, this, szT_run hsz]; rfl, .sub _ _ _ _ _ hC rfl fun sz2 len g2 hb2 => ?_, rfl⟩
              rw [hβ] at hb2
              cases hb2
              refine ⟨rfl, ⟨f2, fun a2 n2 c2 he => by cases he; exact f3⟩, ?_⟩
              have h3 := slice_own (l := l.toNat) (n := (h - l).toNat) hbk f4
              rw [show h.toNat - l.toNat = (h - l).toNat by clear hbk hln; omega]
              exact h3
          · cases ha
        · cases ha
      · cases ha
    · next elem hu =>
      split at ha
      · next sz l h hsz hlo hhi =>
        cases ha
        have hl0 : l = 0 := hob _ (by simp)
        have hh0 : h = 0 := hob _ (by simp)
        subst hl0 hh0
        obtain rfl := hx.raw_inv
        have := sliceBounds_ok (P := P) (isS := true) (len := 0) (cap := 0) hlo (by simpa using hhi) xlo xhi (by omega) (by omega) (by simp) (Nat.le_refl _)
        exact ⟨_, by simp only [Instr.sliceAt, Sem.run_bind, run_underlying hu, Result.andThen_ok, Instr.slice, this, szT_run hsz]; rfl, .raw _, rfl⟩
      · cases ha
    · next n elem o sz i off hu =>
      split at ha
      · next szr es sz' hlk hsz =>
        split at ha
        · next l h hlo hhi =>
          split at ha
          · next hss =>
            subst hss
            cases ha
            have e1 : i = 0 := hob _ (by simp)
            have e2 : off = 0 := hob _ (by simp)
            have e3 : es.length = n := hob _ (by simp)
            have e4 : 0 < n := hob _ (by simp)
            have hb : 0 ≤ l ∧ l ≤ h ∧ h ≤ n := hob _ (by simp)
            subst e1 e2 e3
            rcases hO.row (hl.row hlk) with ⟨rfl, hβ⟩ | ⟨b, cur, t, lo', hi', hβ, hbl, -, hsz2, hlen, hr⟩
            · simp at e4
            · cases hx with
              | rptr o sz i off v hC hone hv =>
                obtain ⟨rfl, rfl⟩ := hv _ _ _ _ hβ
                have := sliceBounds_ok (P := P) (isS := false) (cap := es.length) hlo hhi xlo xhi hb.1 hb.2.1 hb.2.2 (Nat.le_refl _)
                refine ⟨_, by simp only [Instr.sliceAt, Sem.run_bind, run_underlying hu, Result.andThen_ok, Instr.sureAddr, Sem.run_pure, this, szT_run hsz]; rfl, .sub _ _ _ _ _ hC rfl fun sz2 len g2 hb2 => ?_, rfl⟩
                rw [hβ] at hb2
                cases hb2
                refine ⟨rfl, ⟨by omega, fun a2 n2 c2 he => by cases he; omega⟩, ?_⟩
                have h3 := slice_own (sz := szr) (g := some (b, cur.size)) (lo := 0) (c := es.length) (a := some ⟨b, 0, none⟩) (l := l.toNat) (n := (h - l).toNat) (fun _ => ⟨b, _, rfl, by simp, by simpa using hlen⟩) (by omega)
                rw [show h.toNat - l.toNat = (h - l).toNat by omega]
                have e5 : (0 * szr + 0) = 0 := by simp
                rw [e5]
                simp only [Nat.zero_add] at h3
                have e6 : (some (if es.length = l.toNat then (Addr.mk b 0 none) else (Addr.mk b 0 none).add (l.toNat * szr))) = (if es.length = l.toNat then some (Addr.mk b 0 none) else Option.map (fun x => x.add (l.toNat * szr)) (some (Addr.mk b 0 none))) := by split <;> rfl
                rw [e6]
                exact h3
          · cases ha
        · cases ha
      · cases ha
    · cases ha

theorem lenOf_ok {T : TypeId} {ty : TypeId} {ts : Array TypeId} {args : Array Value} {x : AV} {n : Nat} {vx : Value} (hO : Objs O β X w) (hl : Looks O look) (hx : AR O β X w x vx) (h : lenOf P T x look = some n)
    (ht : ts[0]? = some T) (ha : args[0]? = some vx) : (Builtin.len_ ts ty args).run P w = .ok (.int .i64 n) w := by
  unfold lenOf at h
  unfold Builtin.len_
  rw [ht, ha]
  split at h
  · next hu =>
    split at h
    · next s =>
      cases h; obtain rfl := hx.d_inv.str_inv
      simp only [Sem.run_bind, run_underlying hu, Result.andThen_ok]
      rfl
    · cases h
  · next el hu =>
    have hs : ∀ a m c, vx = .slice a m c → m = n → (do
        match ← underlying T, vx with
        | .string, .string s => pure (goInt s.size)
        | .array n _, _ => pure (goInt n)
        | .pointer arr, _ =>
          let .array n _ ← underlying arr | stuck "len: pointer to array expected"
          pure (goInt n)
        | .slice _, .slice _ n _ => pure (goInt n)
        | .map _ _, .map none | .chan _ _, .chan none => pure (goInt 0)
        | .map _ _, .map (some r) =>
          let .map entries _ ← getObj r | stuck "len: map expected"
          pure (goInt entries.size)
        | .chan _ _, .chan (some r) =>
          let .chan _ buf _ _ _ timer ← getObj r | stuck "len: channel expected"
          pure (goInt (if timer then 0 else buf.size))
        | _, _ => stuck "len: string, array, pointer to array, slice, map or channel expected" : Sem Value).run P w = .ok (.int .i64 n) w := by
      rintro a m c rfl rfl
      simp only [Sem.run_bind, run_underlying hu, Result.andThen_ok]
      rfl
    split at h
    · next es =>
      cases h
      cases hx.d_inv with
      | nil a c => exact hs _ _ _ rfl rfl
      | sl es a c sz f => exact hs _ _ _ rfl rfl
    · next o sz =>
      split at h
      · next szr es hlk =>
        cases h
        have hβe : ∃ g, β o = .row szr es.length g := by
          rcases hO.row (hl.row hlk) with ⟨rfl, hβ⟩ | ⟨b, cur, t, lo, hi, hβ, -⟩
          · exact ⟨_, hβ⟩
          · exact ⟨_, hβ⟩
        obtain ⟨g, hβ⟩ := hβe
        cases hx with
        | own o sz v hC hone hv => obtain ⟨rfl, a, c, rfl, -⟩ := hv _ _ _ hβ; exact hs _ _ _ rfl rfl
      · cases h
    · next o sz lo m =>
      split at h
      · next szr es hlk =>
        cases h
        have hβe : ∃ g, β o = .row szr es.length g := by
          rcases hO.row (hl.row hlk) with ⟨rfl, hβ⟩ | ⟨b, cur, t, lo, hi, hβ, -⟩
          · exact ⟨_, hβ⟩
          · exact ⟨_, hβ⟩
        obtain ⟨g, hβ⟩ := hβe
        cases hx with
        | sub o sz lo m v hC hone hv => obtain ⟨rfl, -, a, c, rfl, -⟩ := hv _ _ _ hβ; exact hs _ _ _ rfl rfl
      · cases h
    · next a m c => cases h; obtain rfl := hx.raw_inv; exact hs _ _ _ rfl rfl
    · cases h
  · next m el hu =>
    cases h
    simp only [Sem.run_bind, run_underlying hu, Result.andThen_ok]
    rfl
  · cases h

/-- Two lists, one by one. -/
inductive Fa {α β : Type} (R : α → β → Prop) : List α → List β → Prop
  | nil : Fa R [] []
  | cons {x : α} {y : β} {l : List α} {m : List β} (h : R x y) (r : Fa R l m) : Fa R (x :: l) (y :: m)

theorem minFrom_ok {k : IntKind} {a n : Int} {l : List AV} {vs : List Value} (h : minFrom a l = some n) (hv : Fa (AR O β X w) l vs) : (vs.foldlM Builtin.min2 (.int k a)).run P w = .ok (.int k n) w := by
  induction l generalizing a vs with
  | nil => cases hv; cases h; rfl
  | cons x r ih =>
    cases hv with
    | cons hx hr =>
      unfold minFrom at h
      split at h
      · next h1 => cases h1
      · next k' b r' heq =>
        cases heq
        obtain rfl := hx.d_inv.int_inv
        have e : Builtin.min2 (.int k a) (.int k' b) = pure (.int k (min a b)) := by
          simp only [Builtin.min2]
          congr 2
          rw [Int.min_def]
          split <;> split <;> omega
        rw [List.foldlM_cons, e]
        simp only [pure_bind]
        exact ih h hr
      · cases h
theorem maxFrom_ok {k : IntKind} {a n : Int} {l : List AV} {vs : List Value} (h : maxFrom a l = some n) (hv : Fa (AR O β X w) l vs) : (vs.foldlM Builtin.max2 (.int k a)).run P w = .ok (.int k n) w := by
  induction l generalizing a vs with
  | nil => cases hv; cases h; rfl
  | cons x r ih =>
    cases hv with
    | cons hx hr =>
      unfold maxFrom at h
      split at h
      · next h1 => cases h1
      · next k' b r' heq =>
        cases heq
        obtain rfl := hx.d_inv.int_inv
        have e : Builtin.max2 (.int k a) (.int k' b) = pure (.int k (max a b)) := by
          simp only [Builtin.max2]
          congr 2
          rw [Int.max_def]
          split <;> split <;> omega
        rw [List.foldlM_cons, e]
        simp only [pure_bind]
        exact ih h hr
      · cases h
end
end Sx
end Go.Proofs.Ytfllhedkgeljaaa
