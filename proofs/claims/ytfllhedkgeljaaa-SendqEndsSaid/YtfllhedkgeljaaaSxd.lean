/-
One operation, on abstract values, says what the operation does in memory: parts, arithmetic, conversions, slices, lengths. No condition.
-/
import Derived.Test.YtfllhedkgeljaaaSxc
import Derived.LaidEqlPtr
set_option linter.unusedSimpArgs false
set_option linter.unusedVariables false
namespace Go.Proofs.Ytfllhedkgeljaaa
namespace Sx
open Go.RowKit
section
variable {P : Program} {O : Nat → Ob} {β : Nat → HE} {X : Nat → Prop} {w : World} {look : Nat → Ob}

theorem part_ok {M : Nat → Prop} {T : TypeId} {ag : Bool} {n off : Nat} {cs : List D} {vs : Array Value} {d : D} (hag : aggT P T = some ag) (hn : szT P T = some n) (hd : partD ag n cs off = some d)
    (hl : vs.size = cs.length) (ho : ∀ c ∈ cs, c.one = true) (hr : ∀ j c, cs[j]? = some c → RepD w M c (vs.getD j undef)) : ∃ v, (part T vs off).run P w = .ok v w ∧ RepD w M d v := by
  unfold partD at hd
  cases ag with
  | true =>
    simp only [if_true] at hd
    split at hd
    · next hle =>
      cases hd
      refine ⟨.agg (vs.extract off (off + n)), by simp [part, aggT_run hag, szT_run hn], .agg _ _ (by simp; omega) (fun c hc => ho c (List.mem_of_mem_drop (List.mem_of_mem_take hc))) fun j c hj => ?_⟩
      have hjn : j < n := by
        rcases Nat.lt_or_ge j n with h | h
        · exact h
        · rw [List.getElem?_eq_none (by simp; omega)] at hj; cases hj
      rw [List.getElem?_take_of_lt hjn, List.getElem?_drop] at hj
      have := hr _ _ hj
      have e : (vs.extract off (off + n)).getD j undef = vs.getD (off + j) undef := by
        simp only [Array.getD_eq_getD_getElem?, Array.getElem?_extract]
        rw [if_pos (by omega)]
      rw [e]; exact this
    · cases hd
  | false =>
    have hc : cs[off]? = some d := by simpa using hd
    have hlt := (List.getElem?_eq_some_iff.1 hc).1
    have hv : vs[off]? = some (vs.getD off undef) := by simp [Array.getD_eq_getD_getElem?, show off < vs.size by omega]
    exact ⟨_, by simp only [part, Sem.run_bind, aggT_run hag, Result.andThen_ok, Bool.false_eq_true, if_false, hv]; rfl, hr _ _ hc⟩

theorem agg_inv {cs : List D} {v : Value} (hx : AR O β X w (.d (.agg cs)) v) : ∃ vs, v = .agg vs ∧ vs.size = cs.length ∧ (∀ d ∈ cs, d.one = true) ∧ ∀ j d, cs[j]? = some d → RepD w (Mset X β) d (vs.getD j undef) := by
  have h := hx.d_inv
  cases h with
  | agg cs vs hl ho hr => exact ⟨vs, rfl, hl, ho, hr⟩

theorem actIndex_ok {T : TypeId} {x y : AV} {h : OH} {e : Eff} {vx vy : Value} (hx : AR O β X w x vx) (hy : AR O β X w y vy)
    (ha : actIndex P T x y h = some e) (hob : ∀ p ∈ e.obs, p) :
    ∃ v, (Instr.index T vx vy).run P w = .ok v w ∧ AR O β X w e.val v ∧ e.wr = [] := by
  unfold actIndex at ha
  split at ha
  · next k i hidx =>
    obtain rfl := idxOf_inv hidx hy
    split at ha
    · next len elem hu =>
      split at ha
      · next sz ag hsz hag =>
        split at ha
        · next cs =>
          obtain ⟨vs, rfl, hl, ho, hr⟩ := agg_inv hx
          split at ha
          · next l =>
            split at ha
            · next hc =>
              obtain ⟨rfl, hlen⟩ := hc
              cases ha
              have h0 : 0 ≤ i ∧ i < len := hob _ (by simp)
              have h1 : (cs.drop (i.toNat * sz)).take sz = l := hob _ (by simp)
              have hle : i.toNat * sz + sz ≤ cs.length ∨ sz = 0 := by
                rw [← h1] at hlen; simp at hlen; omega
              have hd : partD true sz cs (i.toNat * sz) = some (.agg l) := by
                unfold partD
                rw [if_pos rfl]
                rcases hle with h | h
                · rw [if_pos h, h1]
                · subst h; simp at h1 ⊢; exact h1
              obtain ⟨v, hv, hrv⟩ := part_ok hag hsz hd hl ho hr
              exact ⟨v, by simp [Instr.index, asIntOf, run_underlying hu, h0.1, h0.2, szT_run hsz, hv], .d _ _ hrv, rfl⟩
            · cases ha
          · next el _ =>
            cases ag with
            | true => simp at ha
            | false =>
              simp only [Bool.false_eq_true, if_false] at ha
              cases ha
              have h0 : 0 ≤ i ∧ i < len := hob _ (by simp)
              have h1 : cs[i.toNat * sz]? = some el := hob _ (by simp)
              obtain ⟨v, hv, hrv⟩ := part_ok (d := el) hag hsz (by simpa [partD] using h1) hl ho hr
              exact ⟨v, by simp [Instr.index, asIntOf, run_underlying hu, h0.1, h0.2, szT_run hsz, hv], .d _ _ hrv, rfl⟩
          · cases ha
        · cases ha
      · cases ha
    · next hu =>
      split at ha
      · next s c =>
        cases ha
        have h0 : 0 ≤ i := hob _ (by simp)
        have h1 : s[i.toNat]? = some c := hob _ (by simp)
        obtain rfl := hx.d_inv.str_inv
        have hb : (⟨s.toArray⟩ : ByteArray)[i.toNat]? = some c := by
          obtain ⟨hlt, he⟩ := List.getElem?_eq_some_iff.1 h1
          rw [getElem?_def]
          have hlt' : i.toNat < (⟨s.toArray⟩ : ByteArray).size := by simpa [ByteArray.size] using hlt
          rw [dif_pos hlt']
          congr 1
        refine ⟨_, by simp only [Instr.index, asIntOf, Sem.run_bind, Sem.run_pure, Result.andThen_ok, run_underlying hu, h0, if_true, hb], .d _ _ (.int _ _), rfl⟩
      · cases ha
    · cases ha
  · cases ha

theorem actField_ok {T : TypeId} {x : AV} {f : Nat} {e : Eff} {vx : Value} (hx : AR O β X w x vx) (ha : actField P T x f = some e) :
    ∃ v, (Instr.field T vx f).run P w = .ok v w ∧ AR O β X w e.val v ∧ e.wr = [] := by
  unfold actField at ha
  split at ha
  · next fs hu =>
    split at ha
    · next fd hfd =>
      split at ha
      · next n ag hn hag =>
        split at ha
        · next cs =>
          split at ha
          · next d hd =>
            cases ha
            obtain ⟨vs, rfl, hl, ho, hr⟩ := agg_inv hx
            obtain ⟨v, hv, hrv⟩ := part_ok hag hn hd hl ho hr
            exact ⟨v, by simp [Instr.field, run_underlying hu, hfd, asAgg, hv], .d _ _ hrv, rfl⟩
          · cases ha
        · next cs =>
          cases hx with
          | agg cs vs hl hr =>
            cases ag with
            | true =>
              simp only [if_true] at ha
              split at ha
              · next hle =>
                cases ha
                refine ⟨.agg (vs.extract fd.offset (fd.offset + n)), by simp [Instr.field, run_underlying hu, hfd, asAgg, part, aggT_run hag, szT_run hn], mkAgg_ok (by simp; omega) fun j y hj => ?_, rfl⟩
                have hjn : j < n := by
                  rcases Nat.lt_or_ge j n with h | h
                  · exact h
                  · rw [List.getElem?_eq_none (by simp; omega)] at hj; cases hj
                rw [List.getElem?_take_of_lt hjn, List.getElem?_drop] at hj
                have e : (vs.extract fd.offset (fd.offset + n)).getD j undef = vs.getD (fd.offset + j) undef := by
                  simp only [Array.getD_eq_getD_getElem?, Array.getElem?_extract]
                  rw [if_pos (by omega)]
                rw [e]; exact hr _ _ hj
              · cases ha
            | false =>
              simp only [Bool.false_eq_true, if_false] at ha
              split at ha
              · next c hc =>
                cases ha
                have hlt := (List.getElem?_eq_some_iff.1 hc).1
                have hv : vs[fd.offset]? = some (vs.getD fd.offset undef) := by simp [Array.getD_eq_getD_getElem?, show fd.offset < vs.size by omega]
                refine ⟨_, ?_, hr _ _ hc, rfl⟩
                simp only [Instr.field, Sem.run_bind, run_underlying hu, Result.andThen_ok, hfd, asAgg, Sem.run_pure, part, aggT_run hag, Bool.false_eq_true, if_false, hv]
              · cases ha
        · cases ha
      · cases ha
    · cases ha
  · cases ha

/-! ### Arithmetic and comparison -/

theorem intBin_ok {op : BinOp} {T : TypeId} {k : IntKind} {a b : Int} {d : D} {obs : List Prop} (h1 : op ≠ .shl) (h2 : op ≠ .shr) (h : intBin op k a b = some (d, obs)) (hob : ∀ p ∈ obs, p) :
    ∃ v, (binOp op T (.int k a) (.int k b)).run P w = .ok v w ∧ RepD w (Mset X β) d v := by
  cases op
  case shl => exact absurd rfl h1
  case shr => exact absurd rfl h2
  case quo => cases h; have hb := hob _ (List.mem_singleton.2 rfl); exact ⟨_, by simp only [binOp, ne_eq, not_true, if_false, Op.intDiv, hb]; rfl, .int _ _⟩
  case rem => cases h; have hb := hob _ (List.mem_singleton.2 rfl); exact ⟨_, by simp only [binOp, ne_eq, not_true, if_false, Op.intDiv, hb]; rfl, .int _ _⟩
  all_goals
    cases h
    first
      | exact ⟨_, by simp [binOp, Op.intArith]; rfl, .int _ _⟩
      | exact ⟨_, by simp [binOp, Op.intBits, bitsI]; rfl, .int _ _⟩
      | exact ⟨_, by simp only [binOp, ne_eq, not_true, if_false, Op.intCmp]; rfl, .bool _⟩

theorem toList_mk (s : List UInt8) : (⟨s.toArray⟩ : ByteArray).toList = s := by
  rw [ByteArray.toList_eq]

theorem strBin_ok {op : BinOp} {T : TypeId} {a b : List UInt8} {d : D} {obs : List Prop} (h : strBin op a b = some (d, obs)) (hob : ∀ p ∈ obs, p) :
    ∃ v, (binOp op T (.string ⟨a.toArray⟩) (.string ⟨b.toArray⟩)).run P w = .ok v w ∧ RepD w (Mset X β) d v := by
  cases op
  case add =>
    cases h
    have hb := hob _ (List.mem_singleton.2 rfl)
    refine ⟨.string (⟨a.toArray⟩ ++ ⟨b.toArray⟩), ?_, ?_⟩
    · simp only [binOp, Op.stringOp]
      rw [if_neg (by simpa [ByteArray.size] using hb)]
      rfl
    · have e : (⟨a.toArray⟩ ++ ⟨b.toArray⟩ : ByteArray) = ⟨(a ++ b).toArray⟩ := by
        apply ByteArray.ext; simp
      rw [e]; exact .str _
  all_goals first
    | (cases h; done)
    | (cases h; exact ⟨_, by simp only [binOp, Op.stringOp, toList_mk]; rfl, .bool _⟩)

theorem scalEq_ok {M : Nat → Prop} {T : TypeId} {c d : D} {b : Bool} {u v : Value} (n : Nat) (h : scalEq P T c d = some b) (hu : RepD w M c u) (hv : RepD w M d v) :
    (Op.equalIn (n + 1) T u v).run P w = .ok b w := by
  unfold scalEq at h
  split at h
  · next a b' ht => cases h; obtain rfl := hu.bool_inv; obtain rfl := hv.bool_inv; exact run_equalIn_bool w n T _ _ ht
  · next k0 k a k' b' ht =>
    split at h
    · next hk => subst hk; cases h; obtain rfl := hu.int_inv; obtain rfl := hv.int_inv; exact run_equalIn_int w n T _ _ _ _ ht
    · cases h
  · next a b' ht =>
    cases h; obtain rfl := hu.str_inv; obtain rfl := hv.str_inv
    rw [run_equalIn_string w n T _ _ ht, toList_mk, toList_mk]
  · cases h

theorem fieldsEq_ok {M : Nat → Prop} {cs ds : List D} {us vs : Array Value} {fs : List Field} {b : Bool} (n : Nat) (h : fieldsEq P cs ds fs = some b)
    (hu : ∀ j d, cs[j]? = some d → RepD w M d (us.getD j undef)) (hv : ∀ j d, ds[j]? = some d → RepD w M d (vs.getD j undef)) (hul : us.size = cs.length) (hvl : vs.size = ds.length) :
    (Op.eqFields (n + 1) us vs fs).run P w = .ok b w := by
  induction fs generalizing b with
  | nil => cases h; simp [Op.eqFields]
  | cons f r ih =>
    unfold fieldsEq at h
    unfold Op.eqFields
    by_cases hname : f.name = "_"
    · simp only [hname, ne_eq, not_true, if_false, if_true] at h ⊢
      exact ih h
    · simp only [hname, ne_eq, not_false_iff, if_true, if_false] at h ⊢
      split at h
      · next c d hag hc hd =>
        split at h
        · next b1 b2 h1 h2 =>
          cases h
          have e1 : us[f.offset]? = some (us.getD f.offset undef) := by
            have := (List.getElem?_eq_some_iff.1 hc).1
            simp [Array.getD_eq_getD_getElem?, show f.offset < us.size by omega]
          have e2 : vs[f.offset]? = some (vs.getD f.offset undef) := by
            have := (List.getElem?_eq_some_iff.1 hd).1
            simp [Array.getD_eq_getD_getElem?, show f.offset < vs.size by omega]
          have p1 : (part f.type us f.offset).run P w = .ok (us.getD f.offset undef) w := by
            simp only [part, Sem.run_bind, aggT_run hag, Result.andThen_ok, Bool.false_eq_true, if_false, e1]; rfl
          have p2 : (part f.type vs f.offset).run P w = .ok (vs.getD f.offset undef) w := by
            simp only [part, Sem.run_bind, aggT_run hag, Result.andThen_ok, Bool.false_eq_true, if_false, e2]; rfl
          simp only [Sem.run_bind, p1, p2, Result.andThen_ok, scalEq_ok n h1 (hu _ _ hc) (hv _ _ hd), Sem.run_ite, ih h2]
          cases b1 <;> simp
        · cases h
      · cases h

theorem equal_slice_nil {T el : TypeId} (ht : P.underlying T = some (.slice el)) (a : Option Addr) (n c : Nat) : (Op.equal T (.slice a n c) (.slice none 0 0)).run P w = .ok a.isNone w := by
  show (Op.equalIn (9999 + 1) T (.slice a n c) (.slice none 0 0)).run P w = _
  unfold Op.equalIn
  simp only [Sem.run_bind, run_underlying ht, Result.andThen_ok]
  cases a <;> rfl
theorem equal_func_nil {T : TypeId} {ps rs : Array TypeId} {vr : Bool} (ht : P.underlying T = some (.func ps rs vr)) : (Op.equal T .nilFunc .nilFunc).run P w = .ok true w ∧ ∀ f x y, (Op.equal T (.func f x y) .nilFunc).run P w = .ok false w := by
  constructor
  · show (Op.equalIn (9999 + 1) T _ _).run P w = _
    unfold Op.equalIn
    simp only [Sem.run_bind, run_underlying ht, Result.andThen_ok]
    rfl
  · intro f x y
    show (Op.equalIn (9999 + 1) T _ _).run P w = _
    unfold Op.equalIn
    simp only [Sem.run_bind, run_underlying ht, Result.andThen_ok]
    rfl
theorem equal_ptr_nil {T el : TypeId} (ht : P.underlying T = some (.pointer el)) (a : Option Addr) : (Op.equal T (.pointer a) (.pointer none)).run P w = .ok a.isNone w := by
  show (Op.equalIn (9999 + 1) T _ _).run P w = _
  unfold Op.equalIn
  simp only [Sem.run_bind, run_underlying ht, Result.andThen_ok]
  cases a <;> rfl

theorem isNil_ok {T : TypeId} {x y : AV} {xo yo : Operand} {op : BinOp} {vx vy : Value} (hO : Objs O β X w) (hl : Looks O look) (hx : AR O β X w x vx) (hy : AR O β X w y vy) (hnil : nilConst P T y = true)
    {b : Bool} {obs : List Prop} (hn : isNil P T x look = some (b, obs)) (hobs : ∀ p ∈ obs, p) :
    (Op.equal T vx vy).run P w = .ok b w ∧ eqGuard op T xo yo vx vy = pure () ∧ binOp .eql T vx vy = (do pure (.bool (← Op.equal T vx vy))) ∧ binOp .neq T vx vy = (do pure (.bool (!(← Op.equal T vx vy)))) := by
  unfold isNil at hn
  unfold nilConst at hnil
  split at hn
  · next el ht =>
    rw [ht] at hnil
    have hy' : y = .raw (.slice none 0 0) := by
      revert hnil; split <;> simp_all
    subst hy'
    obtain rfl := hy.raw_inv
    have hs : ∀ a n c, vx = .slice a n c → (Op.equal T vx (.slice none 0 0)).run P w = .ok a.isNone w ∧ eqGuard op T xo yo vx (.slice none 0 0) = pure () ∧ binOp .eql T vx (.slice none 0 0) = (do pure (.bool (← Op.equal T vx (.slice none 0 0)))) ∧ binOp .neq T vx (.slice none 0 0) = (do pure (.bool (!(← Op.equal T vx (.slice none 0 0))))) := by
      rintro a n c rfl
      exact ⟨equal_slice_nil ht a n c, by cases op <;> rfl, rfl, rfl⟩
    split at hn
    · next a n c => cases hn; obtain rfl := hx.raw_inv; exact hs _ _ _ rfl
    · next es =>
      cases hn
      have hne : es ≠ [] := hobs _ (by simp)
      cases hx.d_inv with
      | nil a c => exact absurd rfl hne
      | sl es a c sz f => exact hs _ _ _ rfl
    · next o sz =>
      split at hn
      · next szr es hlk =>
        cases hn
        have hne : es ≠ [] := hobs _ (by simp)
        rcases hO.row (hl.row hlk) with ⟨hes, -⟩ | ⟨b, cur, t, lo, hi, hβ, hb, -, hsz2, hlen, hr⟩
        · exact absurd hes hne
        · cases hx with
          | own o sz v hC hone hv =>
            obtain ⟨rfl, a, c, rfl, hnc, hbk⟩ := hv _ _ _ hβ
            obtain ⟨b', cnt, hg, rfl, hle⟩ := hbk (by have := List.length_pos_iff.2 hne; omega)
            exact hs _ _ _ rfl
      · cases hn
    · cases hn
  · next ps rs vr ht =>
    rw [ht] at hnil
    have hy' : y = .raw .nilFunc := by
      revert hnil; split <;> simp_all
    subst hy'
    obtain rfl := hy.raw_inv
    split at hn
    · cases hn; obtain rfl := hx.raw_inv
      exact ⟨(equal_func_nil ht).1, by cases op <;> rfl, rfl, rfl⟩
    · cases hn
      cases hx with
      | fn f cs vs hl hh => exact ⟨(equal_func_nil ht).2 _ _ _, by cases op <;> rfl, rfl, rfl⟩
    · cases hn
  · next el ht =>
    rw [ht] at hnil
    have hy' : y = .raw (.pointer none) := by
      revert hnil; split <;> simp_all
    subst hy'
    obtain rfl := hy.raw_inv
    split at hn
    · cases hn; obtain rfl := hx.raw_inv
      exact ⟨equal_ptr_nil ht _, by cases op <;> rfl, rfl, rfl⟩
    · next o off =>
      split at hn
      · next cs hlk =>
        cases hn
        obtain ⟨b, cur, t, lo, hi, hβ, hb, -, -, hr⟩ := hO.box (hl.box hlk)
        cases hx with
        | ptr o off v hC hone hv =>
          obtain rfl := hv b hβ
          exact ⟨equal_ptr_nil ht _, by cases op <;> rfl, rfl, rfl⟩
      · cases hn
    · cases hn
  · cases hn

theorem actBin_ok {op : BinOp} {T : TypeId} {x y : AV} {xo yo : Operand} {e : Eff} {vx vy : Value} (hO : Objs O β X w) (hl : Looks O look) (hx : AR O β X w x vx) (hy : AR O β X w y vy)
    (ha : actBin P op T x y look = some e) (hob : ∀ p ∈ e.obs, p) :
    ∃ v, (do eqGuard op T xo yo vx vy; binOp op T vx vy : Sem Value).run P w = .ok v w ∧ AR O β X w e.val v ∧ e.wr = [] := by
  unfold actBin at ha
  split at ha
  · next k a k' b =>
    obtain rfl := hx.d_inv.int_inv
    obtain rfl := hy.d_inv.int_inv
    rw [eqGuard_at_int]
    split at ha
    · cases ha
      have hb : 0 ≤ b := hob _ (by simp)
      exact ⟨_, by simp only [pure_bind, binOp, Op.shift, if_neg (show ¬ b < 0 by omega)]; rfl, .d _ _ (.int _ _), rfl⟩
    · cases ha
      have hb : 0 ≤ b := hob _ (by simp)
      exact ⟨_, by simp only [pure_bind, binOp, Op.shift, if_neg (show ¬ b < 0 by omega)]; rfl, .d _ _ (.int _ _), rfl⟩
    · next h1 h2 =>
      split at ha
      · next hk =>
        subst hk
        split at ha
        · next d obs hd =>
          cases ha
          obtain ⟨v, hv, hr⟩ := intBin_ok (P := P) (w := w) (β := β) (X := X) (T := T) h1 h2 hd hob
          exact ⟨v, by simpa only [pure_bind] using hv, .d _ _ hr, rfl⟩
        · cases ha
      · cases ha
  · next a b =>
    obtain rfl := hx.d_inv.str_inv
    obtain rfl := hy.d_inv.str_inv
    rw [eqGuard_at_string]
    split at ha
    · next d obs hd =>
      cases ha
      obtain ⟨v, hv, hr⟩ := strBin_ok (P := P) (w := w) (β := β) (X := X) (T := T) hd hob
      exact ⟨v, by simpa only [pure_bind] using hv, .d _ _ hr, rfl⟩
    · cases ha
  · next a b =>
    obtain rfl := hx.d_inv.bool_inv
    obtain rfl := hy.d_inv.bool_inv
    rw [eqGuard_at_bool]
    split at ha
    · next _ ht => cases ha; exact ⟨_, by simp only [pure_bind, binOp, Op.equal, Op.maxDepth, Sem.run_bind, run_equalIn_bool w 9999 T _ _ ht, Result.andThen_ok]; rfl, .d _ _ (.bool _), rfl⟩
    · next _ ht => cases ha; exact ⟨_, by simp only [pure_bind, binOp, Op.equal, Op.maxDepth, Sem.run_bind, run_equalIn_bool w 9999 T _ _ ht, Result.andThen_ok]; rfl, .d _ _ (.bool _), rfl⟩
    · cases ha
  · next cs ds =>
    obtain ⟨us, rfl, hul, -, hu⟩ := agg_inv hx
    obtain ⟨vs, rfl, hvl, -, hv⟩ := agg_inv hy
    split at ha
    · next _ fs ht =>
      split at ha
      · next hg =>
        split at ha
        · next b hb =>
          cases ha
          have hf : P.fieldsOf T = fs := by simp [Program.fieldsOf, ht]
          have hrun : (Op.equalIn (9998 + 1 + 1) T (.agg us) (.agg vs)).run P w = .ok b w := by
            rw [run_equalIn_struct w _ T us vs (by rw [hf]; exact ht) hg.2, hf]
            exact fieldsEq_ok 9998 hb hu hv hul hvl
          exact ⟨_, by simp only [Sem.run_bind, run_eqGuard_agg w _ T _ _ us vs hg.1, Result.andThen_ok, run_eql_struct, hrun], .d _ _ (.bool _), rfl⟩
        · cases ha
      · cases ha
    · next _ fs ht =>
      split at ha
      · next hg =>
        split at ha
        · next b hb =>
          cases ha
          have hf : P.fieldsOf T = fs := by simp [Program.fieldsOf, ht]
          have hrun : (Op.equalIn (9998 + 1 + 1) T (.agg us) (.agg vs)).run P w = .ok b w := by
            rw [run_equalIn_struct w _ T us vs (by rw [hf]; exact ht) hg.2, hf]
            exact fieldsEq_ok 9998 hb hu hv hul hvl
          exact ⟨_, by simp only [Sem.run_bind, run_eqGuard_agg w _ T _ _ us vs hg.1, Result.andThen_ok, run_neq_struct, hrun], .d _ _ (.bool _), rfl⟩
        · cases ha
      · cases ha
    · cases ha
  · next o o' =>
    split at ha
    · next _ _ _ _ el cs cs' ht h1 h2 =>
      split at ha
      · next n hn =>
        cases ha
        obtain ⟨b, cur, t, lo, hi, hβ, hb, hS, -, -⟩ := hO.boxS (hl.box h1)
        obtain ⟨b', cur', t', lo', hi', hβ', hb', hS', -, -⟩ := hO.boxS (hl.box h2)
        cases hx with
        | ptr _ _ v hC hone hv =>
        obtain rfl := hv b hβ
        cases hy with
        | ptr _ _ v' hC' hone' hv' =>
        obtain rfl := hv' b' hβ'
        have hz : (sizeOf el).run P w = .ok (n + 1) w := szT_run hn w
        have heq : (Op.equal T (.pointer (some ⟨b, 0, none⟩)) (.pointer (some ⟨b', 0, none⟩))).run P w = .ok (o == o') w := by
          show (Op.equalIn (9999 + 1) T _ _).run P w = _
          unfold Op.equalIn
          simp only [Sem.run_bind, run_underlying ht, Result.andThen_ok, hz]
          by_cases ho : o = o'
          · subst ho
            rw [hβ] at hβ'
            cases hβ'
            rw [if_pos (by simp), run_sameAddr_same]
            simp
          · have hbb : b ≠ b' := fun e => ho (hO.inj o o' b (by rw [hβ]; rfl) (by rw [hβ', e]; rfl))
            have f1 : ¬(lo = 0 ∧ 0 < hi) := fun h => hS 0 ⟨by omega, h.2⟩
            have f2 : ¬(lo' = 0 ∧ 0 < hi') := fun h => hS' 0 ⟨by omega, h.2⟩
            have f3 := hS cur.size
            have f4 := hS' cur'.size
            have hne : (o == o') = false := by simpa using ho
            rw [if_pos (by simp), hne]
            simp only [sameAddr]
            simp [hbb, World.frozen?, hb, hb', noView, viewAt, World.shape?, mayBeOne, stringish, f1, f2, f3, f4]
        refine ⟨.bool (o == o'), ?_, .d _ _ (.bool _), rfl⟩
        show (do eqGuard .eql T xo yo _ _; binOp .eql T _ _ : Sem Value).run P w = _
        have hg : eqGuard .eql T xo yo (.pointer (some ⟨b, 0, none⟩)) (.pointer (some ⟨b', 0, none⟩)) = pure () := rfl
        have hb2 : binOp .eql T (.pointer (some ⟨b, 0, none⟩)) (.pointer (some ⟨b', 0, none⟩)) = (do pure (.bool (← Op.equal T (.pointer (some ⟨b, 0, none⟩)) (.pointer (some ⟨b', 0, none⟩))))) := rfl
        rw [hg, hb2]
        simp [heq]
      · cases ha
    · cases ha
  · split at ha
    · next hnil =>
      split at ha
      · next b obs hn =>
        cases ha
        obtain ⟨h1, h2, h3, -⟩ := isNil_ok (op := .eql) (xo := xo) (yo := yo) hO hl hx hy hnil hn hob
        refine ⟨.bool b, ?_, .d _ _ (.bool _), rfl⟩
        rw [h2, h3]
        simp [h1]
      · next b obs hn =>
        cases ha
        obtain ⟨h1, h2, -, h3⟩ := isNil_ok (op := .neq) (xo := xo) (yo := yo) hO hl hx hy hnil hn hob
        refine ⟨.bool (!b), ?_, .d _ _ (.bool _), rfl⟩
        rw [h2, h3]
        simp [h1]
      · cases ha
    · cases ha
end
end Sx
end Go.Proofs.Ytfllhedkgeljaaa
