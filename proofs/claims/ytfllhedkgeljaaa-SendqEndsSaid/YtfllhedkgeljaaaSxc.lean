/-
One operation, on abstract values, says what the operation does in memory: values, loads, addresses. No condition.
-/
import Derived.Test.YtfllhedkgeljaaaSxb
set_option linter.unusedSimpArgs false
set_option linter.unusedVariables false
namespace Go.Proofs.Ytfllhedkgeljaaa
namespace Sx
open Go.RowKit

def updL (O : Nat → Ob) : List (Nat × Ob) → Nat → Ob
  | [] => O
  | p :: r => updL (upd O p.1 p.2) r

abbrev AR (O : Nat → Ob) (β : Nat → HE) (X : Nat → Prop) (w : World) (x : AV) (v : Value) : Prop := RAV w (Mset X β) β (fun o => O o ≠ .none) x v

structure Done (O : Nat → Ob) (β : Nat → HE) (X : Nat → Prop) (w : World) (e : Eff) (v : Value) (β' : Nat → HE) (w' : World) : Prop where
  val : AR (updL O e.wr) β' X w' e.val v
  objs : Objs (updL O e.wr) β' X w'
  step : Step O (updL O e.wr) β β' w w'

section
variable {P : Program} {O : Nat → Ob} {β : Nat → HE} {X : Nat → Prop} {w : World} {look : Nat → Ob}

theorem Done.pure {x : AV} {v : Value} {obs : List Prop} (hO : Objs O β X w) (h : AR O β X w x v) : Done O β X w ⟨x, [], obs⟩ v β w :=
  ⟨h, hO, Step.refl _ _ _⟩

/-- Looking at an object: what is seen is there. -/
def Looks (O look : Nat → Ob) : Prop := ∀ n, look n = O n ∨ look n = .gone
theorem Looks.box {n : Nat} {cs : List AV} (hl : Looks O look) (h : look n = .box cs) : O n = .box cs := by
  rcases hl n with e | e
  · rw [← e]; exact h
  · rw [e] at h; cases h
theorem Looks.row {n sz : Nat} {es : List D} (hl : Looks O look) (h : look n = .row sz es) : O n = .row sz es := by
  rcases hl n with e | e
  · rw [← e]; exact h
  · rw [e] at h; cases h
theorem Looks.none {n : Nat} (hl : Looks O look) (h : look n = .none) : O n = .none := by
  rcases hl n with e | e
  · rw [← e]; exact h
  · rw [e] at h; cases h

/-- What a box is in memory. -/
theorem Objs.box {n : Nat} {cs : List AV} (hO : Objs O β X w) (h : O n = .box cs) : ∃ b cur t lo hi, β n = .box b ∧ w.heap[b]? = some (.cells cur t (lo, hi)) ∧
    (∀ j, j < cur.size → ¬ (lo ≤ j ∧ j < hi)) ∧ cur.size = cs.length ∧ ∀ j x, cs[j]? = some x → AR O β X w x (cur.getD j undef) := by
  have hr := hO.rel n
  rw [h] at hr
  generalize β n = g at hr
  cases hr with
  | box cs b cur t lo hi hb hf hl hh => exact ⟨b, cur, t, lo, hi, rfl, hb, fun j _ => hf j, hl, hh⟩
/-- No mark anywhere in a box's block, nor behind it. -/
theorem Objs.boxS {n : Nat} {cs : List AV} (hO : Objs O β X w) (h : O n = .box cs) : ∃ b cur t lo hi, β n = .box b ∧ w.heap[b]? = some (.cells cur t (lo, hi)) ∧
    (∀ j, ¬ (lo ≤ j ∧ j < hi)) ∧ cur.size = cs.length ∧ ∀ j x, cs[j]? = some x → AR O β X w x (cur.getD j undef) := by
  have hr := hO.rel n
  rw [h] at hr
  generalize β n = g at hr
  cases hr with
  | box cs b cur t lo hi hb hf hl hh => exact ⟨b, cur, t, lo, hi, rfl, hb, hf, hl, hh⟩
theorem Objs.row {n sz : Nat} {es : List D} (hO : Objs O β X w) (h : O n = .row sz es) : (es = [] ∧ β n = .row sz 0 none) ∨ ∃ b cur t lo hi, β n = .row sz es.length (some (b, cur.size)) ∧
    w.heap[b]? = some (.cells cur t (lo, hi)) ∧ Fz lo hi cur.size ∧ (∀ e ∈ es, e.cells.length = sz ∧ ∀ d ∈ e.cells, d.one = true) ∧ es.length * sz ≤ cur.size ∧
    ∀ i j e d, es[i]? = some e → e.cells[j]? = some d → RepD w (Mset X β) d (cur.getD (i * sz + j) undef) := by
  have hr := hO.rel n
  rw [h] at hr
  generalize β n = g at hr
  cases hr with
  | rowN sz => exact .inl ⟨rfl, rfl⟩
  | row sz es b cur t lo hi hb hf hsz hl hh => exact .inr ⟨b, cur, t, lo, hi, rfl, hb, hf, hsz, hl, hh⟩

theorem RepD.int_inv {M : Nat → Prop} {k : IntKind} {n : Int} {v : Value} (h : RepD w M (.int k n) v) : v = .int k n := by cases h; rfl
theorem RepD.bool_inv {M : Nat → Prop} {b : Bool} {v : Value} (h : RepD w M (.bool b) v) : v = .bool b := by cases h; rfl
theorem RepD.str_inv {M : Nat → Prop} {s : List UInt8} {v : Value} (h : RepD w M (.str s) v) : v = .string ⟨s.toArray⟩ := by cases h; rfl
theorem RAV.d_inv {M : Nat → Prop} {C : Nat → Prop} {d : D} {v : Value} (h : RAV w M β C (.d d) v) : RepD w M d v := by cases h; assumption
theorem RAV.raw_inv {M : Nat → Prop} {C : Nat → Prop} {u v : Value} (h : RAV w M β C (.raw u) v) : v = u := by cases h; rfl

theorem RepD.one {M : Nat → Prop} {d : D} {v : Value} (h : RepD w M d v) (ho : d.one = true) : v.oneCell' = true ∧ v.cells = #[v] := by
  cases h <;> first | exact ⟨rfl, rfl⟩ | (simp [D.one] at ho)
theorem RAV.one {M : Nat → Prop} {C : Nat → Prop} {x : AV} {v : Value} (h : RAV w M β C x v) (ho : x.one = true)
    (hv : ∀ o, (x = .ptr o 0 ∨ True) → True) (hp : ∀ u, v = u → v.oneCell' = true ∨ (∃ o off, x = .ptr o off) ∨ (∃ o sz i off, x = .rptr o sz i off) ∨ (∃ o sz, x = .own o sz) ∨ (∃ o sz lo n, x = .sub o sz lo n) ∨ True) : True := trivial

theorem toList_getD (a : Array Value) (j : Nat) : a.toList.getD j undef = a.getD j undef := by
  simp [Array.getD_eq_getD_getElem?, List.getD_eq_getElem?_getD]

/-- Cells laid by a list of values that stand for a list of abstract ones. -/
theorem allD_spec {cs : List AV} {ds : List D} (h : allD cs = some ds) : cs = ds.map .d := by
  induction cs generalizing ds with
  | nil => cases h; rfl
  | cons c r ih =>
    cases c <;> simp only [allD] at h <;> try cases h
    split at h
    · next l hl =>
      cases h
      rw [ih hl]
      rfl
    · cases h

theorem mkAgg_ok {M : Nat → Prop} {C : Nat → Prop} {cs : List AV} {vs : Array Value} (hl : vs.size = cs.length) (h : ∀ j x, cs[j]? = some x → RAV w M β C x (vs.getD j undef)) :
    RAV w M β C (mkAgg cs) (.agg vs) := by
  unfold mkAgg
  split
  · next ds hds =>
    have hcs := allD_spec hds
    subst hcs
    split
    · next hall =>
      refine .d _ _ (.agg ds vs (by simpa using hl) (fun d hd => List.all_eq_true.1 hall d hd) fun j d hj => ?_)
      exact (h j (.d d) (by simp [hj])).d_inv
    · exact .agg _ _ hl h
  · exact .agg _ _ hl h

theorem aggT_run {T : TypeId} {ag : Bool} (h : aggT P T = some ag) (w : World) : (isAgg T).run P w = .ok ag w := by
  unfold aggT at h
  split at h
  · next f hu => cases h; simp [isAgg, run_underlying hu]
  · next n e hu => cases h; simp [isAgg, run_underlying hu]
  · next d hu1 hu2 hu => cases h; simp only [isAgg, Sem.run_bind, run_underlying hu, Result.andThen_ok]; first | rfl | (split <;> first | rfl | (exfalso; simp_all))
  · cases h
theorem szT_run {T : TypeId} {n : Nat} (h : szT P T = some n) (w : World) : (sizeOf T).run P w = .ok n w := by
  unfold szT at h
  split at h
  · next i hi => cases h; simp [sizeOf, typeInfo, hi]
  · cases h
theorem szT_info {T : TypeId} {n : Nat} (h : szT P T = some n) : ∃ i, P.info? T = some i ∧ i.size = n := by
  unfold szT at h
  split at h
  · next i hi => exact ⟨i, hi, by cases h; rfl⟩
  · cases h

/-- Loading a variable whose cells are known. -/
theorem loadVar_ok {T : TypeId} {ag : Bool} {n : Nat} (hag : aggT P T = some ag) (hn : szT P T = some n) (a : Addr) (f : Nat → Value)
    (hc : ∀ j, j < (if ag then n else 1) → w.cell? (a.add j) = some (f j)) :
    (loadVar T a).run P w = .ok (if ag then .agg ((List.range n).map f).toArray else f 0) w := by
  cases ag with
  | true => simp [loadVar, aggT_run hag, szT_run hn, run_loadCells (P := P) w a n f (by simpa using hc)]
  | false =>
    have h0 := hc 0 (by simp)
    simp only [Addr.add, if_true] at h0
    simp [loadVar, aggT_run hag, run_load, h0]

theorem getD_range (n : Nat) (f : Nat → Value) (j : Nat) (hj : j < n) : ((List.range n).map f).toArray.getD j undef = f j := by
  simp [Array.getD_eq_getD_getElem?, hj]

theorem partD_ok {M : Nat → Prop} {ag : Bool} {n : Nat} {cs : List D} {off : Nat} {d : D} (h : partD ag n cs off = some d) (ho : ∀ c ∈ cs, c.one = true) (f : Nat → Value)
    (hr : ∀ j c, cs[off + j]? = some c → RepD w M c (f j)) : RepD w M d (if ag then .agg ((List.range n).map f).toArray else f 0) := by
  unfold partD at h
  cases ag with
  | true =>
    simp only [if_true] at h ⊢
    split at h
    · next hle =>
      cases h
      refine .agg _ _ (by simp; omega) (fun c hc => ho c (List.mem_of_mem_drop (List.mem_of_mem_take hc))) fun j c hj => ?_
      have hjn : j < n := by
        rcases Nat.lt_or_ge j n with h | h
        · exact h
        · rw [List.getElem?_eq_none (by simp; omega)] at hj; cases hj
      rw [getD_range n f j hjn]
      refine hr j c ?_
      rw [List.getElem?_take_of_lt hjn, List.getElem?_drop] at hj
      exact hj
    · cases h
  | false => exact hr 0 d (by simpa using h)
theorem partD_lt {ag : Bool} {n : Nat} {cs : List D} {off : Nat} {d : D} (h : partD ag n cs off = some d) : ∀ j, j < (if ag then n else 1) → off + j < cs.length := by
  unfold partD at h
  cases ag with
  | true =>
    simp only [if_true] at h ⊢
    split at h
    · intro j hj; omega
    · cases h
  | false =>
    intro j hj
    simp at hj
    subst hj
    exact (List.getElem?_eq_some_iff.1 (by simpa using h)).1

theorem cellIn {b off : Nat} {cur : Array Value} {t lo hi : Nat} (hb : w.heap[b]? = some (.cells cur t (lo, hi))) (h : off < cur.size) : w.cell? ⟨b, off, none⟩ = some (cur.getD off undef) := by
  simp [World.cell?, hb, h, Array.getD_eq_getD_getElem?]

theorem flat1_len {es : List D} (h : ∀ e ∈ es, e.cells.length = 1) : (es.flatMap D.cells).length = es.length := by
  induction es with
  | nil => rfl
  | cons e r ih => simp [List.flatMap_cons, h e (by simp), ih fun x hx => h x (by simp [hx])]; omega
theorem flat1_get {es : List D} (h : ∀ e ∈ es, e.cells.length = 1) {j : Nat} {d : D} (hj : (es.flatMap D.cells)[j]? = some d) : ∃ e, es[j]? = some e ∧ e.cells[0]? = some d := by
  induction es generalizing j with
  | nil => simp at hj
  | cons e r ih =>
    have h1 := h e (by simp)
    match hc : e.cells, h1 with
    | [c], _ =>
      rw [List.flatMap_cons, hc] at hj
      cases j with
      | zero => exact ⟨e, rfl, by rw [hc]; simpa using hj⟩
      | succ j => exact ih (fun x hx => h x (by simp [hx])) (by simpa using hj)

theorem actLoad_ok {T : TypeId} {x : AV} {h : OH} {e : Eff} {vx : Value} (hO : Objs O β X w) (hl : Looks O look) (hx : AR O β X w x vx) (ha : actLoad P T x h look = some e) (hob : ∀ p ∈ e.obs, p) :
    ∃ v, (Instr.loadAt T vx).run P w = .ok v w ∧ AR O β X w e.val v ∧ e.wr = [] := by
  unfold actLoad at ha
  split at ha
  · next ag n hag hn =>
    split at ha
    · -- a box
      next o off =>
      split at ha
      · next cs hlk =>
        obtain ⟨b, cur, t, lo, hi, hβ, hb, -, hsz, hr⟩ := hO.box (hl.box hlk)
        cases hx with
        | ptr o off v hC hone hv =>
          obtain rfl := hv b hβ
          have hrun : ∀ m, off + m ≤ cs.length → ∀ j, j < m → w.cell? ((Addr.mk b off none).add j) = some (cur.getD (off + j) undef) := fun m hm j hj => by
            rw [add_mk]; exact cellIn hb (by omega)
          cases ag with
          | true =>
            simp only [if_true] at ha
            split at ha
            · next hle =>
              cases ha
              have := loadVar_ok hag hn (Addr.mk b off none) (fun j => cur.getD (off + j) undef) (by simpa using hrun n hle)
              refine ⟨_, by simpa [Instr.loadAt, Instr.sureAddr] using this, ?_, rfl⟩
              refine mkAgg_ok (by simp; omega) fun j y hj => ?_
              have hjn : j < n := by
                rcases Nat.lt_or_ge j n with h | h
                · exact h
                · rw [List.getElem?_eq_none (by simp; omega)] at hj; cases hj
              rw [getD_range _ _ j hjn]
              rw [List.getElem?_take_of_lt hjn, List.getElem?_drop] at hj
              simpa using hr _ _ hj
            · cases ha
          | false =>
            simp only [Bool.false_eq_true, if_false] at ha
            split at ha
            · next c hc =>
              cases ha
              have hlt := (List.getElem?_eq_some_iff.1 hc).1
              have := loadVar_ok hag hn (Addr.mk b off none) (fun j => cur.getD (off + j) undef) (by intro j hj; exact hrun 1 (by omega) j (by simpa using hj))
              exact ⟨_, by simpa [Instr.loadAt, Instr.sureAddr] using this, hr _ _ hc, rfl⟩
            · cases ha
      · cases ha
    · -- plain data
      next el off =>
      split at ha
      · next d hd =>
        cases ha
        cases hx with
        | eptr e off p f hb hM ho hc hr =>
          have hlt := partD_lt hd
          have := loadVar_ok hag hn p f (fun j hj => hc j _ (List.getElem?_eq_getElem (hlt j hj)))
          exact ⟨_, by simpa [Instr.loadAt, Instr.sureAddr] using this, .d _ _ (partD_ok hd ho f hr), rfl⟩
      · cases ha
    · -- a row of one's own
      next o sz i off =>
      split at ha
      · next sz' es hlk =>
        have hrow := hO.row (hl.row hlk)
        split at ha
        · next el =>
          split at ha
          · next hel =>
            split at ha
            · next d hd =>
              cases ha
              have e1 : sz' = sz := hob _ (by simp)
              have e2 : es[i]? = some el := hob _ (by simp)
              subst e1
              rcases hrow with ⟨hes, -⟩ | ⟨b, cur, t, lo, hi, hβ, hb, -, hsz, hlen, hr⟩
              · subst hes; simp at e2
              · cases hx with
                | rptr o sz i off v hC hone hv =>
                  obtain ⟨-, rfl⟩ := hv _ _ _ _ hβ
                  have hil := (List.getElem?_eq_some_iff.1 e2).1
                  have hlt := partD_lt hd
                  have hfit : i * sz' + sz' ≤ cur.size := by
                    have : (i + 1) * sz' ≤ es.length * sz' := Nat.mul_le_mul_right _ hil
                    rw [Nat.succ_mul] at this; omega
                  have := loadVar_ok hag hn (Addr.mk b (i * sz' + off) none) (fun j => cur.getD (i * sz' + (off + j)) undef)
                    (fun j hj => by rw [add_mk, Nat.add_assoc]; exact cellIn hb (by have := hlt j hj; omega))
                  refine ⟨_, by simpa [Instr.loadAt, Instr.sureAddr] using this, .d _ _ ?_, rfl⟩
                  exact partD_ok hd (hsz el (List.mem_of_getElem? e2)).2 _ (fun j c hj => by simpa using hr i (off + j) el c e2 hj)
            · cases ha
          · cases ha
        · split at ha
          · next hagt =>
            obtain ⟨rfl, rfl⟩ := hagt
            cases ha
            have e1 : sz' = 1 := hob _ (by simp)
            have e2 : i = 0 := hob _ (by simp)
            have e3 : off = 0 := hob _ (by simp)
            have e4 : es.length = n := hob _ (by simp)
            have h0 : es ≠ [] := hob _ (by simp)
            subst e1 e2 e3 e4
            cases hx with
            | rptr o sz i off v hC hone hv =>
              rcases hrow with ⟨hes, hβ⟩ | ⟨b, cur, t, lo, hi, hβ, hb, -, hsz, hlen, hr⟩
              · exact absurd hes h0
              · obtain ⟨-, rfl⟩ := hv _ _ _ _ hβ
                have := loadVar_ok hag hn (Addr.mk b (0 * 1 + 0) none) (fun j => cur.getD j undef)
                  (fun j hj => by rw [add_mk]; simp only [Nat.zero_mul, Nat.zero_add]; exact cellIn hb (by simp at hj; omega))
                refine ⟨_, by simpa [Instr.loadAt, Instr.sureAddr] using this, .d _ _ (.agg _ _ ?_ ?_ ?_), rfl⟩
                · rw [flat1_len (fun e he => (hsz e he).1)]; simp
                · intro d hd
                  obtain ⟨e, he, hd⟩ := List.mem_flatMap.1 hd
                  exact (hsz e he).2 d hd
                · intro j d hj
                  obtain ⟨e, he, hd⟩ := flat1_get (fun e he => (hsz e he).1) hj
                  have hjn := (List.getElem?_eq_some_iff.1 he).1
                  rw [getD_range _ _ j hjn]
                  simpa using hr j 0 e d he hd
          · cases ha
        · cases ha
      · cases ha
    · cases ha
  · cases ha

theorem fieldPlace_ok {fd : Field} {n : Nat} (hn : szT P fd.type = some (n + 1)) (a : Addr) : (fieldPlace a fd).run P w = .ok (a.add fd.offset) w := by
  simp [fieldPlace, szT_run hn]

theorem actFieldAddr_ok {T : TypeId} {x : AV} {f : Nat} {e : Eff} {vx : Value} (hO : Objs O β X w) (hl : Looks O look) (hx : AR O β X w x vx) (ha : actFieldAddr P T x f look = some e) (hob : ∀ p ∈ e.obs, p) :
    ∃ v, (Instr.fieldAt T vx f).run P w = .ok v w ∧ AR O β X w e.val v ∧ e.wr = [] := by
  unfold actFieldAddr at ha
  split at ha
  · next fs hu =>
    split at ha
    · next fd hfd =>
      split at ha
      · next n hn =>
        have hrun : ∀ a, (Instr.fieldAt T (.pointer (some a)) f).run P w = .ok (.pointer (some (a.add fd.offset))) w := fun a => by
          simp [Instr.fieldAt, run_underlying hu, hfd, Instr.sureAddr, fieldPlace_ok hn]
        split at ha
        · next o off =>
          split at ha
          · next cs hlk =>
            cases ha
            obtain ⟨b, cur, t, lo, hi, hβ, hb, -, hsz, hr⟩ := hO.box (hl.box hlk)
            cases hx with
            | ptr o off v hC hone hv =>
              obtain rfl := hv b hβ
              refine ⟨_, hrun _, .ptr _ _ _ hC rfl fun b' hb' => ?_, rfl⟩
              rw [hβ] at hb'
              cases hb'
              rw [add_mk]
          · cases ha
        · next o sz i off =>
          split at ha
          · next sz' es hlk =>
            cases ha
            have hil : i < es.length := hob _ (by simp)
            rcases hO.row (hl.row hlk) with ⟨hes, -⟩ | ⟨b, cur, t, lo, hi, hβ, hb, -, hsz, hlen, hr⟩
            · subst hes; simp at hil
            · cases hx with
              | rptr o sz i off v hC hone hv =>
                obtain ⟨rfl, rfl⟩ := hv _ _ _ _ hβ
                refine ⟨_, hrun _, .rptr _ _ _ _ _ hC rfl fun sz2 len b' n' hb' => ?_, rfl⟩
                rw [hβ] at hb'
                cases hb'
                rw [add_mk, Nat.add_assoc]
                exact ⟨rfl, rfl⟩
          · cases ha
        · next el off =>
          cases ha
          cases hx with
          | eptr el off p g hb hM ho hc hr =>
            refine ⟨_, hrun p, .eptr _ _ _ (fun j => g (fd.offset + j)) (by rw [block_add]; exact hb) (by rw [block_add]; exact hM) ho (fun j d hj => ?_) (fun j d hj => ?_), rfl⟩
            · rw [add_add]; exact hc (fd.offset + j) d (by rw [← hj, Nat.add_assoc])
            · exact hr (fd.offset + j) d (by rw [← hj, Nat.add_assoc])
        · cases ha
      · cases ha
    · cases ha
  · cases ha

theorem idxOf_inv {x : AV} {k : IntKind} {i : Int} {v : Value} (h : idxOf x = some (k, i)) (hx : AR O β X w x v) : v = .int k i := by
  unfold idxOf at h
  split at h
  · cases h; exact hx.d_inv.int_inv
  · cases h

theorem actIndexAddr_ok {T : TypeId} {x y : AV} {h : OH} {e : Eff} {vx vy : Value} (hO : Objs O β X w) (hl : Looks O look) (hx : AR O β X w x vx) (hy : AR O β X w y vy)
    (ha : actIndexAddr P T x y h look = some e) (hob : ∀ p ∈ e.obs, p) :
    ∃ v, (Instr.indexAt T vx vy).run P w = .ok v w ∧ AR O β X w e.val v ∧ e.wr = [] := by
  unfold actIndexAddr at ha
  split at ha
  · next k i hidx =>
    obtain rfl := idxOf_inv hidx hy
    split at ha
    · next elem hu =>
      split at ha
      · next sz hsz =>
        have hrun : ∀ a n c, 0 ≤ i → i < (n : Nat) → (Instr.indexAt T (.slice (some a) n c) (.int k i)).run P w = .ok (.pointer (some (a.add (i.toNat * sz)))) w := fun a n c h0 h1 => by
          simp [Instr.indexAt, asIntOf, run_underlying hu, h0, h1, szT_run hsz]
        split at ha
        · next es =>
          split at ha
          · next el =>
            split at ha
            · next hel =>
              cases ha
              have h0 : 0 ≤ i := hob _ (by simp)
              have h1 : es[i.toNat]? = some el := hob _ (by simp)
              have hlt := (List.getElem?_eq_some_iff.1 h1).1
              cases hx with
              | d d v hd =>
                cases hd with
                | nil a c => simp at hlt
                | sl es a c sz' f hn hb hM hsz' hc hr =>
                  have hs := hsz' el (List.mem_of_getElem? h1)
                  have hss : sz' = sz := hs.1.symm.trans hel
                  subst hss
                  refine ⟨_, hrun a _ c h0 (by omega), .eptr _ _ _ (f i.toNat) (by rw [block_add]; exact hb) (by rw [block_add]; exact hM) hs.2 (fun j d hj => ?_) (fun j d hj => ?_), rfl⟩
                  · rw [add_add]
                    exact hc i.toNat j hlt (by rw [← hel]; exact (List.getElem?_eq_some_iff.1 (by simpa using hj)).1)
                  · exact hr i.toNat j el d h1 (by simpa using hj)
            · cases ha
          · cases ha
        · next o sz' =>
          split at ha
          · next szr es hlk =>
            split at ha
            · next hss =>
              subst hss
              cases ha
              have h0 : 0 ≤ i ∧ i < es.length := hob _ (by simp)
              rcases hO.row (hl.row hlk) with ⟨hes, -⟩ | ⟨b, cur, t, lo, hi, hβ, hb, -, hsz2, hlen, hr⟩
              · subst hes; simp at h0; omega
              · cases hx with
                | own o sz v hC hone hv =>
                  obtain ⟨rfl, a, c, rfl, hnc, hbk⟩ := hv _ _ _ hβ
                  obtain ⟨b', cnt, hg, rfl, hle⟩ := hbk (by omega)
                  cases hg
                  refine ⟨_, hrun _ _ c h0.1 h0.2, .rptr _ _ _ _ _ hC rfl fun sz2 len b' n' hb' => ?_, rfl⟩
                  rw [hβ] at hb'
                  cases hb'
                  exact ⟨rfl, by rw [add_mk]; simp⟩
            · cases ha
          · cases ha
        · next o sz' lo' n =>
          split at ha
          · next szr es hlk =>
            split at ha
            · next hss =>
              subst hss
              cases ha
              have h0 : 0 ≤ i ∧ i < n := hob _ (by simp)
              cases hx with
              | sub o sz lo' n v hC hone hv =>
                rcases hO.row (hl.row hlk) with ⟨hes, hβ⟩ | ⟨b, cur, t, lo, hi, hβ, hb, -, hsz2, hlen, hr⟩
                · obtain ⟨-, hle, -⟩ := hv _ _ _ hβ
                  omega
                · obtain ⟨rfl, hle0, a, c, rfl, hnc, hbk⟩ := hv _ _ _ hβ
                  obtain ⟨b', cnt, hg, rfl, hle⟩ := hbk (by omega)
                  cases hg
                  refine ⟨_, hrun _ _ c h0.1 h0.2, .rptr _ _ _ _ _ hC rfl fun sz2 len b' n' hb' => ?_, rfl⟩
                  rw [hβ] at hb'
                  cases hb'
                  exact ⟨rfl, by rw [add_mk, Nat.add_mul]; simp⟩
            · cases ha
          · cases ha
        · cases ha
      · cases ha
    · next len elem hu =>
      split at ha
      · next sz hsz =>
        have hrun : ∀ a, 0 ≤ i → i < (len : Nat) → (Instr.indexAt T (.pointer (some a)) (.int k i)).run P w = .ok (.pointer (some (a.add (i.toNat * sz)))) w := fun a h0 h1 => by
          simp [Instr.indexAt, Instr.sureAddr, asIntOf, run_underlying hu, h0, h1, szT_run hsz]
        split at ha
        · next o off =>
          split at ha
          · next cs hlk =>
            cases ha
            have h0 : 0 ≤ i ∧ i < len := hob _ (by simp)
            obtain ⟨b, cur, t, lo, hi, hβ, hb, -, -, hr⟩ := hO.box (hl.box hlk)
            cases hx with
            | ptr o off v hC hone hv =>
              obtain rfl := hv b hβ
              refine ⟨_, hrun _ h0.1 h0.2, .ptr _ _ _ hC rfl fun b' hb' => ?_, rfl⟩
              rw [hβ] at hb'
              cases hb'
              rw [add_mk]
          · cases ha
        · next o sz' j off =>
          split at ha
          · next szr es hlk =>
            split at ha
            · next hss =>
              subst hss
              cases ha
              have e1 : j = 0 := hob _ (by simp)
              have e2 : off = 0 := hob _ (by simp)
              have h0 : 0 ≤ i ∧ i < len := hob _ (by simp)
              have h3 : i < es.length := hob _ (by simp)
              subst e1 e2
              rcases hO.row (hl.row hlk) with ⟨hes, -⟩ | ⟨b, cur, t, lo, hi, hβ, hb, -, hsz2, hlen, hr⟩
              · subst hes; simp at h3; omega
              · cases hx with
                | rptr o sz i' off v hC hone hv =>
                  obtain ⟨rfl, rfl⟩ := hv _ _ _ _ hβ
                  refine ⟨_, hrun _ h0.1 h0.2, .rptr _ _ _ _ _ hC rfl fun sz2 len b' n' hb' => ?_, rfl⟩
                  rw [hβ] at hb'
                  cases hb'
                  exact ⟨rfl, by rw [add_mk]; simp⟩
            · cases ha
          · cases ha
        · next el off =>
          cases ha
          have h0 : 0 ≤ i ∧ i < len := hob _ (by simp)
          cases hx with
          | eptr el off p g hb hM ho hc hr =>
            refine ⟨_, hrun p h0.1 h0.2, .eptr _ _ _ (fun j => g (i.toNat * sz + j)) (by rw [block_add]; exact hb) (by rw [block_add]; exact hM) ho (fun j d hj => ?_) (fun j d hj => ?_), rfl⟩
            · rw [add_add]; exact hc (i.toNat * sz + j) d (by rw [← hj, Nat.add_assoc])
            · exact hr (i.toNat * sz + j) d (by rw [← hj, Nat.add_assoc])
        · cases ha
      · cases ha
    · cases ha
  · cases ha
end
end Sx
end Go.Proofs.Ytfllhedkgeljaaa
