/-
Part 1 of 9 of the proof of pipeEnds: the lemmas that it needs, of the texts Sxa, Sxb, Sxc, Sxd, Sxe, Sxf, Sxg. No condition but those that each lemma names.
-/
import Derived.WalkKit
import Derived.WalkLawsBesides
import Derived.KernelRfl
import Derived.LaidEqlPtr

set_option linter.unusedSimpArgs false
set_option linter.unusedVariables false
set_option maxRecDepth 100000
set_option maxHeartbeats 1000000
section
namespace Go.Proofs.YtalpfhpeaaocmaaGreat
namespace Sx
open Go.RowKit
/-- Plain data: what a value reads as. A struct or an array is the list of its cells; a slice is the list of its elements. -/
inductive D where
 | int (k : IntKind) (n : Int)
 | bool (b : Bool)
 | str (s : List UInt8)
 | agg (cs : List D)
 | sl (es : List D)
 deriving Inhabited
def D.cells : D → List D
 | .agg cs => cs
 | d => [d]
/-- One cell of memory holds it. -/
def D.one : D → Bool
 | .agg _ => false
 | _ => true
/-- The value `v` reads as `d` in world `w`; of blocks in `M` (those that may still be written) nothing is said. -/
inductive RepD (w : World) (M : Nat → Prop) : D → Value → Prop
 | int (k : IntKind) (n : Int) : RepD w M (.int k n) (.int k n)
 | bool (b : Bool) : RepD w M (.bool b) (.bool b)
 | str (s : List UInt8) : RepD w M (.str s) (.string ⟨s.toArray⟩)
 | agg (cs : List D) (vs : Array Value) (hl : vs.size = cs.length) (ho : ∀ d ∈ cs, d.one = true) (h : ∀ j d, cs[j]? = some d → RepD w M d (vs.getD j undef)) : RepD w M (.agg cs) (.agg vs)
 | nil (a : Option Addr) (c : Nat) : RepD w M (.sl []) (.slice a 0 c)
 | sl (es : List D) (a : Addr) (c sz : Nat) (f : Nat → Nat → Value) (hn : es.length ≤ c) (hb : a.block < w.heap.size) (hM : ¬ M a.block)
   (hsz : ∀ e ∈ es, e.cells.length = sz ∧ ∀ d ∈ e.cells, d.one = true)
   (hc : ∀ i j, i < es.length → j < sz → w.cell? (a.add (i * sz + j)) = some (f i j))
   (hr : ∀ i j e d, es[i]? = some e → e.cells[j]? = some d → RepD w M d (f i j)) : RepD w M (.sl es) (.slice (some a) es.length c)
/-- Between two worlds only blocks in `T`, and new ones, may have turned. -/
structure Evo (T : Nat → Prop) (w w' : World) : Prop where
 os : w'.os = w.os
 tape : w'.tape = w.tape
 output : w'.output = w.output
 size : w.heap.size ≤ w'.heap.size
 block : ∀ b, b < w.heap.size → ¬ T b → w'.heap[b]? = w.heap[b]?
theorem Evo.refl (T : Nat → Prop) (w : World) : Evo T w w := ⟨rfl, rfl, rfl, Nat.le_refl _, fun _ _ _ => rfl⟩
theorem Evo.trans {T T' : Nat → Prop} {a b c : World} (h : Evo T a b) (k : Evo T' b c) (hT : ∀ x, T' x → T x ∨ a.heap.size ≤ x) : Evo T a c :=
 ⟨k.os.trans h.os, k.tape.trans h.tape, k.output.trans h.output, Nat.le_trans h.size k.size, fun x hx hn =>
  (k.block x (Nat.lt_of_lt_of_le hx h.size) (fun ht => (hT x ht).elim hn (fun hge => by omega))).trans (h.block x hx hn)⟩
theorem Evo.weaken {T T' : Nat → Prop} {a b : World} (h : Evo T a b) (hT : ∀ x, T x → T' x) : Evo T' a b :=
 ⟨h.os, h.tape, h.output, h.size, fun x hx hn => h.block x hx (fun ht => hn (hT x ht))⟩
theorem Evo.drew {T : Nat → Prop} {a b : World} (h : Evo T a b) : Evo T a b.drew := ⟨h.os, h.tape, h.output, h.size, h.block⟩
theorem Evo.alloc {T : Nat → Prop} {a b : World} (h : Evo T a b) (o : Obj) : Evo T a (b.alloc o) :=
 ⟨h.os, h.tape, h.output, by have := h.size; simp; omega, fun x hx hn => by rw [Below.heap_alloc _ _ _ (Nat.lt_of_lt_of_le hx h.size)]; exact h.block x hx hn⟩
theorem Evo.cell {T : Nat → Prop} {w w' : World} (h : Evo T w w') {p : Addr} {v : Value} (hp : ¬ T p.block) (hv : w.cell? p = some v) : w'.cell? p = some v := by
 have hb := World.block_lt_of_cell? _ _ hv
 rw [World.cell?_of_block (w := w) (h.block _ hb hp)]
 exact hv
theorem block_add (a : Addr) (n : Nat) : (a.add n).block = a.block := by unfold Addr.add; split <;> rfl
theorem add_add (a : Addr) (i j : Nat) : (a.add i).add j = a.add (i + j) := by
 unfold Addr.add
 by_cases hi : i = 0 <;> by_cases hj : j = 0 <;> simp [hi, hj, Nat.add_assoc]
theorem add_mk (b o n : Nat) : (Addr.mk b o none).add n = ⟨b, o + n, none⟩ := by
 unfold Addr.add
 split
 ·next h => subst h; rfl
 ·rfl
theorem RepD.mono {w w' : World} {M M' T : Nat → Prop} {d : D} {v : Value} (h : RepD w M d v) (he : Evo T w w') (hT : ∀ b, T b → M b)
  (hM : ∀ b, M' b → M b ∨ w.heap.size ≤ b) : RepD w' M' d v := by
 induction h with
 | int k n => exact .int k n
 | bool b => exact .bool b
 | str s => exact .str s
 | agg cs vs hl ho _ ih => exact .agg cs vs hl ho ih
 | nil a c => exact .nil a c
 | sl es a c sz f hn hb hnM hsz hc hr ih =>
  refine .sl es a c sz f hn (Nat.lt_of_lt_of_le hb he.size) ?_ hsz (fun i j hi hj => ?_) ih
  ·intro hm
   rcases hM _ hm with h1 | h1
   ·exact hnM h1
   ·omega
  ·exact he.cell (by rw [block_add]; exact fun ht => hnM (hT _ ht)) (hc i j hi hj)
/-- Abstract values. `ptr`, `rptr`, `own`, `sub` name an object of the call's own; `eptr` leads into plain data. -/
inductive AV where
 | d (d : D)
 | raw (v : Value)
 | ptr (o off : Nat)
 | rptr (o sz i off : Nat)
 | eptr (e : D) (off : Nat)
 | own (o sz : Nat)
 | sub (o sz lo n : Nat)
 | agg (cs : List AV)
 | tup (vs : List AV)
 | fn (f : FuncId) (cap : List AV)
 | meth (f : FuncId) (first : List AV)
 | dead
 deriving Inhabited
/-- An object: not yet there, gone, cells, or a row of plain elements of `sz` cells each. -/
inductive Ob where
 | none
 | gone
 | box (cs : List AV)
 | row (sz : Nat) (es : List D)
 deriving Inhabited
/-- Where an object lies: a block, or (an empty row) nowhere. `cnt`: how many cells the block has. -/
inductive HE where
 | gone
 | box (b : Nat)
 | row (sz len : Nat) (g : Option (Nat × Nat))
 deriving Inhabited
def HE.blk : HE → Option Nat
 | .gone => none
 | .box b => some b
 | .row _ _ g => g.map (·.1)
/-- The slice value of the elements from `lo` on, `n` of them. -/
def OwnV (g : Option (Nat × Nat)) (sz lo n : Nat) (v : Value) : Prop :=
 ∃ (a : Option Addr) (c : Nat), v = .slice a n c ∧ n ≤ c ∧ (0 < c → ∃ b cnt, g = some (b, cnt) ∧ a = some ⟨b, lo * sz, Option.none⟩ ∧ (lo + c) * sz ≤ cnt)
/-- From element `lo` on there is room for all the elements that the row has. -/
def CapV (lo len : Nat) (v : Value) : Prop := ∀ a n c, v = .slice a n c → len ≤ lo + c
inductive RAV (w : World) (M : Nat → Prop) (β : Nat → HE) (C : Nat → Prop) : AV → Value → Prop
 | d (d : D) (v : Value) (h : RepD w M d v) : RAV w M β C (.d d) v
 | raw (v : Value) : RAV w M β C (.raw v) v
 | ptr (o off : Nat) (v : Value) (ho : C o) (h1 : v.oneCell' = true) (h : ∀ b, β o = .box b → v = .pointer (some ⟨b, off, Option.none⟩)) : RAV w M β C (.ptr o off) v
 | rptr (o sz i off : Nat) (v : Value) (ho : C o) (h1 : v.oneCell' = true) (h : ∀ sz' len b n, β o = .row sz' len (some (b, n)) → sz' = sz ∧ v = .pointer (some ⟨b, i * sz + off, Option.none⟩)) : RAV w M β C (.rptr o sz i off) v
 | eptr (e : D) (off : Nat) (p : Addr) (f : Nat → Value) (hb : p.block < w.heap.size) (hM : ¬ M p.block) (ho : ∀ d ∈ e.cells, d.one = true)
   (hc : ∀ j d, e.cells[off + j]? = some d → w.cell? (p.add j) = some (f j))
   (hr : ∀ j d, e.cells[off + j]? = some d → RepD w M d (f j)) : RAV w M β C (.eptr e off) (.pointer (some p))
 | own (o sz : Nat) (v : Value) (ho : C o) (h1 : v.oneCell' = true) (h : ∀ sz' len g, β o = .row sz' len g → sz' = sz ∧ OwnV g sz 0 len v) : RAV w M β C (.own o sz) v
 | sub (o sz lo n : Nat) (v : Value) (ho : C o) (h1 : v.oneCell' = true) (h : ∀ sz' len g, β o = .row sz' len g → sz' = sz ∧ (lo + n ≤ len ∧ CapV lo len v) ∧ OwnV g sz lo n v) : RAV w M β C (.sub o sz lo n) v
 | agg (cs : List AV) (vs : Array Value) (hl : vs.size = cs.length) (h : ∀ j x, cs[j]? = some x → RAV w M β C x (vs.getD j undef)) : RAV w M β C (.agg cs) (.agg vs)
 | tup (cs : List AV) (vs : Array Value) (hl : vs.size = cs.length) (h : ∀ j x, cs[j]? = some x → RAV w M β C x (vs.getD j undef)) : RAV w M β C (.tup cs) (.tuple vs)
 | fn (f : FuncId) (cs : List AV) (vs : Array Value) (hl : vs.size = cs.length) (h : ∀ j x, cs[j]? = some x → RAV w M β C x (vs.getD j undef)) :
   RAV w M β C (.fn f cs) (.func (.func f) #[] vs)
 | meth (f : FuncId) (cs : List AV) (vs : Array Value) (hl : vs.size = cs.length) (h : ∀ j x, cs[j]? = some x → RAV w M β C x (vs.getD j undef)) :
   RAV w M β C (.meth f cs) (.func (.func f) vs #[])
 | dead (v : Value) : RAV w M β C .dead v
theorem RAV.mono {w w' : World} {M M' T : Nat → Prop} {β β' : Nat → HE} {C C' : Nat → Prop} {x : AV} {v : Value} (h : RAV w M β C x v) (he : Evo T w w') (hT : ∀ b, T b → M b)
  (hM : ∀ b, M' b → M b ∨ w.heap.size ≤ b) (hC : ∀ o, C o → C' o ∧ (β' o = β o ∨ β' o = .gone)) : RAV w' M' β' C' x v := by
 induction h with
 | d d v h => exact .d d v (h.mono he hT hM)
 | raw v => exact .raw v
 | ptr o off v ho hone h =>
  refine .ptr o off v (hC o ho).1 hone fun b hb => ?_
  rcases (hC o ho).2 with h1 | h1
  ·exact h b (h1 ▸ hb)
  ·rw [h1] at hb; cases hb
 | rptr o sz i off v ho hone h =>
  refine .rptr o sz i off v (hC o ho).1 hone fun sz' len b n hb => ?_
  rcases (hC o ho).2 with h1 | h1
  ·exact h sz' len b n (h1 ▸ hb)
  ·rw [h1] at hb; cases hb
 | eptr e off p f hb hnM ho hc hr =>
  refine .eptr e off p f (Nat.lt_of_lt_of_le hb he.size) ?_ ho (fun j d hj => ?_) (fun j d hj => (hr j d hj).mono he hT hM)
  ·intro hm
   rcases hM _ hm with h1 | h1
   ·exact hnM h1
   ·omega
  ·exact he.cell (by rw [block_add]; exact fun ht => hnM (hT _ ht)) (hc j d hj)
 | own o sz v ho hone h =>
  refine .own o sz v (hC o ho).1 hone fun sz' len g hb => ?_
  rcases (hC o ho).2 with h1 | h1
  ·exact h sz' len g (h1 ▸ hb)
  ·rw [h1] at hb; cases hb
 | sub o sz lo n v ho hone h =>
  refine .sub o sz lo n v (hC o ho).1 hone fun sz' len g hb => ?_
  rcases (hC o ho).2 with h1 | h1
  ·exact h sz' len g (h1 ▸ hb)
  ·rw [h1] at hb; cases hb
 | agg cs vs hl _ ih => exact .agg cs vs hl ih
 | tup cs vs hl _ ih => exact .tup cs vs hl ih
 | fn f cs vs hl _ ih => exact .fn f cs vs hl ih
 | meth f cs vs hl _ ih => exact .meth f cs vs hl ih
 | dead v => exact .dead v
/-- No cell of it is barred from being written. -/
def Fz (lo hi n : Nat) : Prop := lo = hi ∨ n ≤ lo
theorem Fz.out {lo hi n : Nat} (h : Fz lo hi n) : ∀ j, j < n → ¬ (lo ≤ j ∧ j < hi) := by
 intro j hj
 unfold Fz at h
 omega
inductive ObjRel (w : World) (M : Nat → Prop) (β : Nat → HE) (C : Nat → Prop) : Ob → HE → Prop
 | none : ObjRel w M β C .none .gone
 | gone : ObjRel w M β C .gone .gone
 | box (cs : List AV) (b : Nat) (cur : Array Value) (t : TypeId) (lo hi : Nat) (hb : w.heap[b]? = some (.cells cur t (lo, hi))) (hf : ∀ j, ¬ (lo ≤ j ∧ j < hi))
   (hl : cur.size = cs.length) (h : ∀ j x, cs[j]? = some x → RAV w M β C x (cur.getD j undef)) : ObjRel w M β C (.box cs) (.box b)
 | rowN (sz : Nat) : ObjRel w M β C (.row sz []) (.row sz 0 Option.none)
 | row (sz : Nat) (es : List D) (b : Nat) (cur : Array Value) (t : TypeId) (lo hi : Nat) (hb : w.heap[b]? = some (.cells cur t (lo, hi))) (hf : Fz lo hi cur.size)
   (hsz : ∀ e ∈ es, e.cells.length = sz ∧ ∀ d ∈ e.cells, d.one = true) (hl : es.length * sz ≤ cur.size)
   (hr : ∀ i j e d, es[i]? = some e → e.cells[j]? = some d → RepD w M d (cur.getD (i * sz + j) undef)) : ObjRel w M β C (.row sz es) (.row sz es.length (some (b, cur.size)))
theorem ObjRel.mono {w w' : World} {M M' T : Nat → Prop} {β β' : Nat → HE} {C C' : Nat → Prop} {x : Ob} {g : HE} (h : ObjRel w M β C x g) (he : Evo T w w') (hT : ∀ b, T b → M b)
  (hM : ∀ b, M' b → M b ∨ w.heap.size ≤ b) (hC : ∀ o, C o → C' o ∧ (β' o = β o ∨ β' o = .gone)) (hsame : ∀ b, g.blk = some b → w'.heap[b]? = w.heap[b]?) : ObjRel w' M' β' C' x g := by
 cases h with
 | none => exact .none
 | gone => exact .gone
 | box cs b cur t lo hi hb hf hl h => exact .box cs b cur t lo hi ((hsame b rfl).trans hb) hf hl fun j x hj => (h j x hj).mono he hT hM hC
 | rowN sz => exact .rowN sz
 | row sz es b cur t lo hi hb hf hsz hl hr => exact .row sz es b cur t lo hi ((hsame b rfl).trans hb) hf hsz hl fun i j e d h1 h2 => (hr i j e d h1 h2).mono he hT hM
/-- The abstract state: slots, objects; how many slots there are. -/
structure AS where
 E : Nat → AV
 O : Nat → Ob
 nt : Nat
def Tset (β : Nat → HE) (b : Nat) : Prop := ∃ o, (β o).blk = some b
def Mset (X : Nat → Prop) (β : Nat → HE) (b : Nat) : Prop := X b ∨ Tset β b
def AS.C (S : AS) (o : Nat) : Prop := S.O o ≠ .none
/-- The objects of a state, in memory. -/
structure Objs (O : Nat → Ob) (β : Nat → HE) (X : Nat → Prop) (w : World) : Prop where
 rel : ∀ o, ObjRel w (Mset X β) β (fun o => O o ≠ .none) (O o) (β o)
 inj : ∀ o o' b, (β o).blk = some b → (β o').blk = some b → o = o'
 priv : ∀ o b, (β o).blk = some b → ¬ X b
 xlt : ∀ b, X b → b < w.heap.size
structure Rel (S : AS) (β : Nat → HE) (X : Nat → Prop) (a : Act) (w : World) : Prop where
 size : a.tmps.size = S.nt
 defers : a.defers = []
 slots : ∀ t, RAV w (Mset X β) β (fun o => S.O o ≠ .none) (S.E t) (a.tmps.getD t undef)
 objs : Objs S.O β X w
theorem ObjRel.lt {w : World} {M : Nat → Prop} {β : Nat → HE} {C : Nat → Prop} {x : Ob} {g : HE} (h : ObjRel w M β C x g) {b : Nat} (hb : g.blk = some b) : b < w.heap.size := by
 have key : ∀ {b : Nat} {o : Obj}, w.heap[b]? = some o → b < w.heap.size := fun {b o} h => (Array.getElem?_eq_some_iff.1 h).1
 cases h with
 | none => cases hb
 | gone => cases hb
 | rowN => cases hb
 | box cs b' cur t lo hi h1 => injection hb with e; exact e ▸ key h1
 | row sz es b' cur t lo hi h1 => injection hb with e; exact e ▸ key h1
theorem Objs.tlt {O : Nat → Ob} {β : Nat → HE} {X : Nat → Prop} {w : World} (h : Objs O β X w) {b : Nat} (hb : Tset β b) : b < w.heap.size := by
 obtain ⟨o, ho⟩ := hb
 exact (h.rel o).lt ho
/-- What an operation may have done. -/
structure Step (O O' : Nat → Ob) (β β' : Nat → HE) (w w' : World) : Prop where
 evo : Evo (Tset β) w w'
 keep : ∀ o, O o ≠ .none → O' o ≠ .none ∧ (β' o = β o ∨ β' o = .gone)
 new : ∀ b, Tset β' b → Tset β b ∨ w.heap.size ≤ b
theorem Step.refl (O : Nat → Ob) (β : Nat → HE) (w : World) : Step O O β β w w := ⟨Evo.refl _ _, fun _ h => ⟨h, .inl rfl⟩, fun _ h => .inl h⟩
theorem Step.mset {O O' : Nat → Ob} {β β' : Nat → HE} {w w' : World} (h : Step O O' β β' w w') (X : Nat → Prop) : ∀ b, Mset X β' b → Mset X β b ∨ w.heap.size ≤ b := by
 rintro b (hx | ht)
 ·exact .inl (.inl hx)
 ·rcases h.new b ht with h1 | h1
  ·exact .inl (.inr h1)
  ·exact .inr h1
theorem Step.rav {O O' : Nat → Ob} {β β' : Nat → HE} {w w' : World} (h : Step O O' β β' w w') {X : Nat → Prop} {x : AV} {v : Value}
  (hx : RAV w (Mset X β) β (fun o => O o ≠ .none) x v) : RAV w' (Mset X β') β' (fun o => O' o ≠ .none) x v :=
 hx.mono h.evo (fun _ hb => .inr hb) (h.mset X) h.keep
theorem Step.repd {O O' : Nat → Ob} {β β' : Nat → HE} {w w' : World} (h : Step O O' β β' w w') {X : Nat → Prop} {x : D} {v : Value}
  (hx : RepD w (Mset X β) x v) : RepD w' (Mset X β') x v :=
 hx.mono h.evo (fun _ hb => .inr hb) (h.mset X)
theorem Step.trans {O O' O'' : Nat → Ob} {β β' β'' : Nat → HE} {w w' w'' : World} (h : Step O O' β β' w w') (k : Step O' O'' β' β'' w' w'') : Step O O'' β β'' w w'' where
 evo := h.evo.trans k.evo h.new
 keep := fun o ho => by
  obtain ⟨h1, h2⟩ := h.keep o ho
  obtain ⟨k1, k2⟩ := k.keep o h1
  refine ⟨k1, ?_⟩
  rcases k2 with k2 | k2
  ·rcases h2 with h2 | h2
   ·exact .inl (k2.trans h2)
   ·exact .inr (k2.trans h2)
  ·exact .inr k2
 new := fun b hb => by
  rcases k.new b hb with h1 | h1
  ·exact h.new b h1
  ·exact .inr (Nat.le_trans h.evo.size h1)
def upd {α : Type} (f : Nat → α) (n : Nat) (v : α) : Nat → α := fun m => if m = n then v else f m
theorem upd_same {α : Type} (f : Nat → α) (n : Nat) (v : α) : upd f n v n = v := by simp [upd]
theorem upd_other {α : Type} (f : Nat → α) {n m : Nat} (v : α) (h : m ≠ n) : upd f n v m = f m := by simp [upd, h]
end Sx
end Go.Proofs.YtalpfhpeaaocmaaGreat
namespace Go.Proofs.YtalpfhpeaaocmaaGreat.Sx
@[reducible] def vI (n : Int) : AV := .d (.int .i64 n)
@[reducible] def vU (n : Int) : AV := .d (.int .u8 n)
@[reducible] def vW (n : Int) : AV := .d (.int .u32 n)
@[reducible] def vB (b : Bool) : AV := .d (.bool b)
@[reducible] def vS (s : List UInt8) : AV := .d (.str s)
@[reducible] def vL (l : List D) : AV := .d (.sl l)
@[reducible] def rf {A : Type} (x : A) : Prop := x = x
end Go.Proofs.YtalpfhpeaaocmaaGreat.Sx
end
section
namespace Go.Proofs.YtalpfhpeaaocmaaGreat
namespace Sx
open Go.RowKit
/-- What an operation answers: its value, the objects that it writes, what it takes for granted. -/
structure Eff where
 val : AV
 wr : List (Nat × Ob)
 obs : List Prop
/-- A hint for one operation. -/
inductive OH where
 | n
 | el (e : D)
 | byte (c : UInt8)
 | str (s : List UInt8)
 | arr
 | val (d : D)
 | call (who : List Nat) (rv : AV) (outs : List Ob)
 | callN (who : List Nat) (rv : AV) (outs : List Ob)
 | fn (g : List D → Option (AV × List Ob))
 | look (who : List Nat) (rv : AV)
def OH.who : OH → List Nat
 | .look who _ => who
 | .call who _ _ => who
 | .callN who _ _ => who
 | _ => []
mutual
def AV.names : AV → List Nat
 | .ptr o _ => [o]
 | .rptr o _ _ _ => [o]
 | .own o _ => [o]
 | .sub o _ _ _ => [o]
 | .agg cs => AV.namesL cs
 | .tup cs => AV.namesL cs
 | .fn _ cs => AV.namesL cs
 | .meth _ cs => AV.namesL cs
 | _ => []
def AV.namesL : List AV → List Nat
 | [] => []
 | c :: r => c.names ++ AV.namesL r
end

def constAV : Value → AV
 | .int k n => .d (.int k n)
 | .bool b => .d (.bool b)
 | .string s => .d (.str s.data.toList)
 | v => .raw v
def AS.ev (S : AS) : Operand → AV
 | .tmp t => S.E t
 | .const v => constAV v
 | .func f => .fn f []
 | .global _ => .dead
/-- The cells of a value. -/
def AV.cells : AV → Option (List AV)
 | .d (.agg cs) => some (cs.map .d)
 | .d (.int k n) => some [.d (.int k n)]
 | .d (.bool b) => some [.d (.bool b)]
 | .d (.str s) => some [.d (.str s)]
 | .d (.sl s) => some [.d (.sl s)]
 | .agg cs => some cs
 | .raw (.agg _) => none
 | .raw (.tuple _) => none
 | .raw v => some [.raw v]
 | .dead => none
 | .tup _ => none
 | x => some [x]
def AV.one : AV → Bool
 | .d x => x.one
 | .raw v => v.oneCell'
 | .agg _ => false
 | .tup _ => false
 | .dead => false
 | _ => true
def allD : List AV → Option (List D)
 | [] => some []
 | AV.d x :: r => match allD r with | some l => some (x :: l) | none => none
 | _ :: _ => none
def mkAgg (cs : List AV) : AV :=
 match allD cs with
 | some ds => if ds.all D.one then .d (.agg ds) else .agg cs
 | none => .agg cs
def szT (P : Program) (t : TypeId) : Option Nat := match P.info? t with | some i => some i.size | none => none
def aggT (P : Program) (t : TypeId) : Option Bool :=
 match P.underlying t with
 | some (.struct _) => some true
 | some (.array _ _) => some true
 | some _ => some false
 | none => none
def zeroC (P : Program) (t : TypeId) : Option (List AV) :=
 match P.info? t with
 | some i => match i.zero with | some v => some (v.cells.toList.map constAV) | none => none
 | none => none
def setAt {α : Type} (old : List α) (off : Nat) (cs : List α) : List α := old.take off ++ cs ++ old.drop (off + cs.length)
/-- An object of one call is named by the slot that the operation writes. -/
def newName (dst j : Nat) : Nat := 1000 + 8 * dst + j
def pureE (v : AV) : Option Eff := some ⟨v, [], []⟩
def partD (ag : Bool) (n : Nat) (cs : List D) (off : Nat) : Option D :=
 if ag then (if off + n ≤ cs.length then some (.agg ((cs.drop off).take n)) else none) else cs[off]?
def actLoad (P : Program) (T : TypeId) (x : AV) (h : OH) (look : Nat → Ob) : Option Eff :=
 match aggT P T, szT P T with
 | some ag, some n =>
  match x with
  | .ptr o off =>
   match look o with
   | .box cs =>
    if ag then (if off + n ≤ cs.length then pureE (mkAgg ((cs.drop off).take n)) else none)
    else match cs[off]? with | some c => pureE c | none => none
   | _ => none
  | .eptr e off => match partD ag n e.cells off with | some d => pureE (.d d) | none => none
  | .rptr o sz i off =>
   match look o with
   | .row sz' es =>
    match h with
    | .el e => if e.cells.length = sz then (match partD ag n e.cells off with | some d => some ⟨.d d, [], [sz' = sz, es[i]? = some e]⟩ | none => none) else none
    | .arr => if ag = true ∧ sz = 1 then some ⟨.d (.agg (es.flatMap D.cells)), [], [sz' = sz, i = 0, off = 0, es.length = n, es ≠ []]⟩ else none
    | _ => none
   | _ => none
  | _ => none
 | _, _ => none
def D.setCells (e : D) (off : Nat) (ds : List D) : D :=
 match e with
 | .agg cs => .agg (setAt cs off ds)
 | d => match ds with | [x] => x | _ => d
def actStore (P : Program) (T : TypeId) (x v : AV) (h : OH) (look : Nat → Ob) : Option Eff :=
 match szT P T, v.cells with
 | some n, some cs =>
  match x with
  | .ptr o off =>
   match look o with
   | .box old => if cs.length = n ∧ off + n ≤ old.length ∧ cs.all AV.one = true then some ⟨.dead, [(o, .box (setAt old off cs))], []⟩ else none
   | _ => none
  | .rptr o sz i off =>
   match look o, h, allD cs with
   | .row sz' es, .el e, some ds =>
    if cs.length = n ∧ off + n ≤ e.cells.length ∧ e.cells.length = sz ∧ 0 < n ∧ ds.all D.one = true then
     some ⟨.dead, [(o, .row sz (es.set i (e.setCells off ds)))], [sz' = sz, es[i]? = some e]⟩ else none
   | .row sz' es, .arr, some ds =>
    if cs.length = n ∧ sz = 1 ∧ 0 < n ∧ ds.all D.one = true then some ⟨.dead, [(o, .row 1 ds)], [sz' = 1, i = 0, off = 0, es.length = n]⟩ else none
   | _, _, _ => none
  | _ => none
 | _, _ => none
def actFieldAddr (P : Program) (T : TypeId) (x : AV) (f : Nat) (look : Nat → Ob) : Option Eff :=
 match P.underlying T with
 | some (.struct fs) =>
  match fs[f]? with
  | some fd =>
   match szT P fd.type with
   | some (_ + 1) =>
    match x with
    | .ptr o off => match look o with | .box _ => pureE (.ptr o (off + fd.offset)) | _ => none
    | .rptr o sz i off => match look o with | .row _ es => some ⟨.rptr o sz i (off + fd.offset), [], [i < es.length]⟩ | _ => none
    | .eptr e off => pureE (.eptr e (off + fd.offset))
    | _ => none
   | _ => none
  | none => none
 | _ => none
def idxOf : AV → Option (IntKind × Int)
 | .d (.int k i) => some (k, i)
 | _ => none
def actIndexAddr (P : Program) (T : TypeId) (x idx : AV) (h : OH) (look : Nat → Ob) : Option Eff :=
 match idxOf idx with
 | some (_, i) =>
  match P.underlying T with
  | some (.slice elem) =>
   match szT P elem with
   | some sz =>
    match x with
    | .d (.sl es) =>
     match h with
     | .el e => if e.cells.length = sz then some ⟨.eptr e 0, [], [0 ≤ i, es[i.toNat]? = some e]⟩ else none
     | _ => none
    | .own o sz' =>
     match look o with
     | .row _ es => if sz' = sz then some ⟨.rptr o sz i.toNat 0, [], [0 ≤ i ∧ i < es.length]⟩ else none
     | _ => none
    | .sub o sz' lo n =>
     match look o with
     | .row _ _ => if sz' = sz then some ⟨.rptr o sz (lo + i.toNat) 0, [], [0 ≤ i ∧ i < n]⟩ else none
     | _ => none
    | _ => none
   | none => none
  | some (.array len elem) =>
   match szT P elem with
   | some sz =>
    match x with
    | .ptr o off =>
     match look o with
     | .box _ => some ⟨.ptr o (off + i.toNat * sz), [], [0 ≤ i ∧ i < len]⟩
     | _ => none
    | .rptr o sz' j off =>
     match look o with
     | .row _ es => if sz' = sz then some ⟨.rptr o sz i.toNat 0, [], [j = 0, off = 0, 0 ≤ i ∧ i < len, i < es.length]⟩ else none
     | _ => none
    | .eptr e off => some ⟨.eptr e (off + i.toNat * sz), [], [0 ≤ i ∧ i < len]⟩
    | _ => none
   | none => none
  | _ => none
 | none => none
def actIndex (P : Program) (T : TypeId) (x idx : AV) (h : OH) : Option Eff :=
 match idxOf idx with
 | some (_, i) =>
  match P.underlying T with
  | some (.array len elem) =>
   match szT P elem, aggT P elem with
   | some sz, some ag =>
    match x with
    | .d (.agg cs) =>
     match h with
     | .el (.agg l) => if ag = true ∧ l.length = sz then some ⟨.d (.agg l), [], [0 ≤ i ∧ i < len, (cs.drop (i.toNat * sz)).take sz = l]⟩ else none
     | .el e => if ag then none else some ⟨.d e, [], [0 ≤ i ∧ i < len, cs[i.toNat * sz]? = some e]⟩
     | _ => none
    | _ => none
   | _, _ => none
  | some .string =>
   match x, h with
   | .d (.str s), .byte c => some ⟨.d (.int .u8 c.toNat), [], [0 ≤ i, s[i.toNat]? = some c]⟩
   | _, _ => none
  | _ => none
 | none => none
def actField (P : Program) (T : TypeId) (x : AV) (f : Nat) : Option Eff :=
 match P.underlying T with
 | some (.struct fs) =>
  match fs[f]? with
  | some fd =>
   match szT P fd.type, aggT P fd.type with
   | some n, some ag =>
    match x with
    | .d (.agg cs) => match partD ag n cs fd.offset with | some d => pureE (.d d) | none => none
    | .agg cs =>
     if ag then (if fd.offset + n ≤ cs.length then pureE (mkAgg ((cs.drop fd.offset).take n)) else none)
     else match cs[fd.offset]? with | some c => pureE c | none => none
    | _ => none
   | _, _ => none
  | none => none
 | _ => none
def bitsI (op : BinOp) (k : IntKind) (x y : Int) : Int :=
 match op with
 | .and => k.wrap (BitVec.ofInt k.bits x &&& BitVec.ofInt k.bits y).toNat
 | .or => k.wrap (BitVec.ofInt k.bits x ||| BitVec.ofInt k.bits y).toNat
 | .xor => k.wrap (BitVec.ofInt k.bits x ^^^ BitVec.ofInt k.bits y).toNat
 | _ => k.wrap (BitVec.ofInt k.bits x &&& ~~~BitVec.ofInt k.bits y).toNat
def intBin (op : BinOp) (k : IntKind) (a b : Int) : Option (D × List Prop) :=
 match op with
 | .add => some (.int k (k.wrap (a + b)), [])
 | .sub => some (.int k (k.wrap (a - b)), [])
 | .mul => some (.int k (k.wrap (a * b)), [])
 | .quo => some (.int k (k.wrap (a.tdiv b)), [b ≠ 0])
 | .rem => some (.int k (a.tmod b), [b ≠ 0])
 | .and => some (.int k (bitsI .and k a b), [])
 | .or => some (.int k (bitsI .or k a b), [])
 | .xor => some (.int k (bitsI .xor k a b), [])
 | .andNot => some (.int k (bitsI .andNot k a b), [])
 | .eql => some (.bool (a == b), [])
 | .neq => some (.bool (a != b), [])
 | .lss => some (.bool (decide (a < b)), [])
 | .leq => some (.bool (decide (a ≤ b)), [])
 | .gtr => some (.bool (decide (a > b)), [])
 | .geq => some (.bool (decide (a ≥ b)), [])
 | _ => none
def strBin (op : BinOp) (a b : List UInt8) : Option (D × List Prop) :=
 match op with
 | .add => some (.str (a ++ b), [((a.length + b.length : Nat) : Int) ≤ IntKind.i64.max])
 | .eql => some (.bool (a == b), [])
 | .neq => some (.bool (!(a == b)), [])
 | .lss => some (.bool (Op.bytesLess a b), [])
 | .leq => some (.bool (Op.bytesLess a b || a == b), [])
 | .gtr => some (.bool (!(Op.bytesLess a b || a == b)), [])
 | .geq => some (.bool (!Op.bytesLess a b), [])
 | _ => none
/-- Equality of two scalars of one type; none: not of one plain type. -/
def scalEq (P : Program) (T : TypeId) (x y : D) : Option Bool :=
 match P.underlying T, x, y with
 | some .bool, .bool a, .bool b => some (a == b)
 | some (.int _), .int k a, .int k' b => if k = k' then some (a == b) else none
 | some .string, .str a, .str b => some (a == b)
 | _, _, _ => none
/-- Equality of two structs all of whose fields are scalars. -/
def fieldsEq (P : Program) (cs ds : List D) : List Field → Option Bool
 | [] => some true
 | f :: r =>
  if f.name = "_" then fieldsEq P cs ds r else
  match aggT P f.type, cs[f.offset]?, ds[f.offset]? with
  | some false, some c, some d =>
   match scalEq P f.type c d, fieldsEq P cs ds r with
   | some b, some b' => some (b && b')
   | _, _ => none
  | _, _, _ => none
def rawNil : Value → Bool
 | .slice none 0 0 => true
 | .pointer none => true
 | .nilFunc => true
 | _ => false
/-- Is a value nil? -/
def isNil (P : Program) (T : TypeId) (x : AV) (look : Nat → Ob) : Option (Bool × List Prop) :=
 match P.underlying T with
 | some (.slice _) =>
  match x with
  | .raw (.slice a _ _) => some (a.isNone, [])
  | .d (.sl es) => some (false, [es ≠ []])
  | .own o _ => match look o with | .row _ es => some (false, [es ≠ []]) | _ => none
  | _ => none
 | some (.func _ _ _) =>
  match x with
  | .raw .nilFunc => some (true, [])
  | .fn _ _ => some (false, [])
  | _ => none
 | some (.pointer _) =>
  match x with
  | .raw (.pointer none) => some (true, [])
  | .ptr o _ => match look o with | .box _ => some (false, []) | _ => none
  | _ => none
 | _ => none
def nilConst (P : Program) (T : TypeId) (y : AV) : Bool :=
 match P.underlying T, y with
 | some (.slice _), .raw (.slice none 0 0) => true
 | some (.func _ _ _), .raw .nilFunc => true
 | some (.pointer _), .raw (.pointer none) => true
 | _, _ => false
def actBin (P : Program) (op : BinOp) (T : TypeId) (x y : AV) (look : Nat → Ob) : Option Eff :=
 match x, y with
 | .d (.int k a), .d (.int k' b) =>
  match op with
  | .shl => some ⟨.d (.int k (k.wrap (a * 2 ^ (min b.toNat k.bits)))), [], [0 ≤ b]⟩
  | .shr => some ⟨.d (.int k (a.fdiv (2 ^ (min b.toNat k.bits)))), [], [0 ≤ b]⟩
  | _ => if k = k' then (match intBin op k a b with | some (d, obs) => some ⟨.d d, [], obs⟩ | none => none) else none
 | .d (.str a), .d (.str b) => match strBin op a b with | some (d, obs) => some ⟨.d d, [], obs⟩ | none => none
 | .d (.bool a), .d (.bool b) =>
  match P.underlying T, op with
  | some .bool, .eql => pureE (.d (.bool (a == b)))
  | some .bool, .neq => pureE (.d (.bool (!(a == b))))
  | _, _ => none
 | .d (.agg cs), .d (.agg ds) =>
  match P.underlying T, op with
  | some (.struct fs), .eql => if P.eqGuardType P.depth T = false ∧ P.stoodInHeld T = false then (match fieldsEq P cs ds fs.toList with | some b => pureE (.d (.bool b)) | none => none) else none
  | some (.struct fs), .neq => if P.eqGuardType P.depth T = false ∧ P.stoodInHeld T = false then (match fieldsEq P cs ds fs.toList with | some b => pureE (.d (.bool (!b))) | none => none) else none
  | _, _ => none
 | .ptr o 0, .ptr o' 0 =>
  match P.underlying T, look o, look o', op with
  | some (.pointer el), .box _, .box _, .eql => match szT P el with | some (_ + 1) => pureE (.d (.bool (o == o'))) | _ => none
  | _, _, _, _ => none
 | x, y =>
  if nilConst P T y then
   match op, isNil P T x look with
   | .eql, some (b, obs) => some ⟨.d (.bool b), [], obs⟩
   | .neq, some (b, obs) => some ⟨.d (.bool (!b)), [], obs⟩
   | _, _ => none
  else none
def actUn (op : UnOp) (x : AV) : Option Eff :=
 match op, x with
 | .neg, .d (.int k n) => pureE (.d (.int k (k.wrap (0 - n))))
 | .xor, .d (.int k n) => pureE (.d (.int k (bitsI .xor k (if k.signed then -1 else k.max) n)))
 | .not, .d (.bool b) => pureE (.d (.bool (!b)))
 | _, _ => none
def byteD (c : UInt8) : D := .int .u8 c.toNat
def rowOf (x : AV) (look : Nat → Ob) : Option (List D) :=
 match x with
 | .d (.sl es) => some es
 | .own o _ => match look o with | .row _ es => some es | _ => none
 | .sub o _ lo n => match look o with | .row _ es => some ((es.drop lo).take n) | _ => none
 | .raw (.slice _ 0 _) => some []
 | _ => none
def actConvert (P : Program) (dst : Nat) (s t : TypeId) (x : AV) (h : OH) (look : Nat → Ob) : Option Eff :=
 match P.underlying s, P.underlying t with
 | some (.int _), some (.int k) => match x with | .d (.int _ n) => pureE (.d (.int k (k.wrap n))) | _ => none
 | some .string, some .string => match x with | .d (.str s) => pureE (.d (.str s)) | _ => none
 | some .string, some (.slice e) =>
  match P.underlying e, x, look (newName dst 0) with
  | some (.int .u8), .d (.str s), .none => some ⟨.own (newName dst 0) 1, [(newName dst 0, .row 1 (s.map byteD))], []⟩
  | _, _, _ => none
 | some (.slice e), some .string =>
  match P.underlying e, rowOf x look, h with
  | some (.int .u8), some es, .str s => some ⟨.d (.str s), [], [es = s.map byteD]⟩
  | _, _, _ => none
 | some (.slice e), some (.slice _) =>
  match P.underlying e, x with
  | some (.int .u8), .own o sz => match look o with | .row sz' es => if s = t then some ⟨.own o sz, [(o, .row sz' es)], [es ≠ []]⟩ else none | _ => none
  | _, _ => none
 | _, _ => none
def bound (x : Option AV) (dflt : Int) : Option Int :=
 match x with
 | none => some dflt
 | some (.d (.int _ i)) => some i
 | some _ => none
def actSlice (P : Program) (T : TypeId) (x : AV) (lo hi mx : Option AV) (look : Nat → Ob) : Option Eff :=
 match mx with
 | some m =>
  match P.underlying T, x with
  | some (.slice elem), .d (.sl es) =>
   match hi with
   | some ah => match szT P elem, bound lo 0, bound (some ah) 0, bound (some m) 0 with
    | some sz, some l, some h, some k => some ⟨.d (.sl ((es.take h.toNat).drop l.toNat)), [], [0 ≤ l ∧ l ≤ h ∧ h ≤ k ∧ k ≤ es.length, ∀ e ∈ es, e.cells.length = sz]⟩
    | _, _, _, _ => none
   | none => none
  | some (.slice elem), .own o _ =>
   match look o, szT P elem with
   | .row _ es, some _ =>
    match hi with
    | some ah => match bound lo 0, bound (some ah) 0, bound (some m) 0 with
     | some l, some h, some k => some ⟨.dead, [], [0 ≤ l ∧ l ≤ h ∧ h ≤ k ∧ k ≤ es.length]⟩
     | _, _, _ => none
    | none => none
   | _, _ => none
  | _, _ => none
 | none =>
  match P.underlying T, x with
  | some .string, .d (.str s) =>
   match bound lo 0, bound hi s.length with
   | some l, some h => some ⟨.d (.str ((s.take h.toNat).drop l.toNat)), [], [0 ≤ l ∧ l ≤ h ∧ h ≤ s.length]⟩
   | _, _ => none
  | some (.slice elem), .d (.sl es) =>
   match szT P elem, bound lo 0, bound hi es.length with
   | some sz, some l, some h => some ⟨.d (.sl ((es.take h.toNat).drop l.toNat)), [], [0 ≤ l ∧ l ≤ h ∧ h ≤ es.length, ∀ e ∈ es, e.cells.length = sz]⟩
   | _, _, _ => none
  | some (.slice elem), .own o sz =>
   match look o, szT P elem with
   | .row _ es, some sz' =>
    match bound lo 0, bound hi es.length with
    | some l, some h => if sz = sz' then some ⟨.sub o sz l.toNat (h - l).toNat, [], [0 ≤ l ∧ l ≤ h ∧ h ≤ es.length]⟩ else none
    | _, _ => none
   | _, _ => none
  | some (.slice elem), .sub o sz l0 n =>
   match look o, szT P elem with
   | .row _ es, some sz' =>
    match bound lo 0, bound hi n with
    | some l, some h => if sz = sz' then some ⟨.sub o sz (l0 + l.toNat) (h - l).toNat, [], [0 ≤ l ∧ l ≤ h ∧ (h ≤ n ∨ l0 + h ≤ es.length)]⟩ else none
    | _, _ => none
   | _, _ => none
  | some (.slice elem), .raw (.slice none 0 0) =>
   match szT P elem, bound lo 0, bound hi 0 with
   | some _, some l, some h => some ⟨.raw (.slice none 0 0), [], [l = 0, h = 0]⟩
   | _, _, _ => none
  | some (.array n elem), .rptr o sz i off =>
   match look o, szT P elem with
   | .row _ es, some sz' =>
    match bound lo 0, bound hi n with
    | some l, some h => if sz = sz' then some ⟨.sub o sz l.toNat (h - l).toNat, [], [i = 0, off = 0, es.length = n, 0 < n, 0 ≤ l ∧ l ≤ h ∧ h ≤ n]⟩ else none
    | _, _ => none
   | _, _ => none
  | _, _ => none
def chunk (sz : Nat) : Nat → List D → List D
 | 0, _ => []
 | n + 1, l => D.agg (l.take sz) :: chunk sz n (l.drop sz)
/-- The same scalar. -/
def D.same : D → D → Bool
 | .int k n, .int k' n' => k == k' && n == n'
 | .bool b, .bool b' => b == b'
 | .str [], .str [] => true
 | _, _ => false
def sameAV (z : D) : AV → Bool
 | .d x => D.same x z
 | _ => false
/-- The cells of an array's zero value as a row. -/
def actAlloc (P : Program) (dst : Nat) (T : TypeId) (h : OH) (look : Nat → Ob) : Option Eff :=
 match look (newName dst 0), zeroC P T with
 | .none, some cs =>
  match h with
  | .arr =>
   match P.underlying T with
   | some (.array n elem) =>
    match zeroC P elem, szT P elem with
    | some [.d z], some 1 => if z.one = true ∧ cs.length = n ∧ cs.all (sameAV z) = true then some ⟨.rptr (newName dst 0) 1 0 0, [(newName dst 0, .row 1 (List.replicate n z))], []⟩ else none
    | _, _ => none
   | _ => none
  | _ => some ⟨.ptr (newName dst 0) 0, [(newName dst 0, .box cs)], []⟩
 | _, _ => none
def actBox (dst : Nat) (x : AV) (look : Nat → Ob) : Option Eff :=
 match look (newName dst 0), x.cells with
 | .none, some cs => some ⟨.ptr (newName dst 0) 0, [(newName dst 0, .box cs)], []⟩
 | _, _ => none
/-- The parts of a struct or an array laid over its zero cells. -/
def fillAV (place : Nat → Option (Nat × Nat)) (cells : List AV) : List (Nat × AV) → Option (List AV)
 | [] => some cells
 | (i, v) :: rest =>
  match place i, v.cells with
  | some (off, size), some cs => if cs.length = size ∧ off + size ≤ cells.length then fillAV place (setAt cells off cs) rest else none
  | _, _ => none
def placeF (P : Program) (fs : Array Field) (i : Nat) : Option (Nat × Nat) :=
 match fs[i]? with
 | some f => match szT P f.type with | some n => some (f.offset, n) | none => none
 | none => none
def actBuild (P : Program) (T : TypeId) (parts : List (Nat × AV)) : Option Eff :=
 match P.underlying T, zeroC P T with
 | some (.struct fs), some z => if fs.toList.all (fun f => (szT P f.type).isSome) then (match fillAV (placeF P fs) z parts with | some cs => pureE (mkAgg cs) | none => none) else none
 | some (.array _ elem), some z =>
  match szT P elem with
  | some sz => match fillAV (fun i => some (i * sz, sz)) z parts with | some cs => pureE (mkAgg cs) | none => none
  | none => none
 | _, _ => none
def repl (n : Nat) (z : List AV) : List AV := match n with | 0 => [] | n + 1 => z ++ repl n z
/-- Cells as elements. -/
def elemsOf (sz : Nat) (n : Nat) (cs : List AV) : Option (List D) :=
 match allD cs with
 | some ds => if ds.all D.one = true ∧ ds.length = n * sz then some (chunk sz n ds) else none
 | none => none
def actBuildSlice (P : Program) (dst : Nat) (T : TypeId) (len : Nat) (parts : List (Nat × AV)) (look : Nat → Ob) : Option Eff :=
 match look (newName dst 0), P.underlying T with
 | .none, some (.slice elem) =>
  match szT P elem, zeroC P elem, aggT P elem with
  | some sz, some z, some ag =>
   if z.length = sz ∧ 0 < sz ∧ len * sz ≤ 16777216 ∧ (ag = true ∨ sz = 1) then
    match fillAV (fun i => some (i * sz, sz)) (repl len z) parts with
    | some cs => match (if ag then elemsOf sz len cs else allD cs) with
     | some es => if ag = true ∨ es.all D.one = true then some ⟨.own (newName dst 0) sz, [(newName dst 0, .row sz es)], []⟩ else none
     | none => none
    | none => none
   else none
  | _, _, _ => none
 | _, _ => none
def minFrom (a : Int) : List AV → Option Int
 | [] => some a
 | AV.d (.int _ b) :: r => minFrom (min a b) r
 | _ => none
def maxFrom (a : Int) : List AV → Option Int
 | [] => some a
 | AV.d (.int _ b) :: r => maxFrom (max a b) r
 | _ => none
def minI : List AV → Option (IntKind × Int)
 | AV.d (.int k a) :: r => match minFrom a r with | some n => some (k, n) | none => none
 | _ => none
def maxI : List AV → Option (IntKind × Int)
 | AV.d (.int k a) :: r => match maxFrom a r with | some n => some (k, n) | none => none
 | _ => none
def lenOf (P : Program) (T : TypeId) (x : AV) (look : Nat → Ob) : Option Nat :=
 match P.underlying T with
 | some .string => match x with | .d (.str s) => some s.length | _ => none
 | some (.slice _) =>
  match x with
  | .d (.sl es) => some es.length
  | .own o _ => match look o with | .row _ es => some es.length | _ => none
  | .sub o _ _ n => match look o with | .row _ _ => some n | _ => none
  | .raw (.slice _ n _) => some n
  | _ => none
 | some (.array n _) => some n
 | _ => none
/-- The elements that are appended. -/
def newsOf (P : Program) (T : TypeId) (x : AV) (look : Nat → Ob) : Option (List D) :=
 match P.underlying T with
 | some .string => match x with | .d (.str s) => some (s.map byteD) | _ => none
 | some (.slice _) => rowOf x look
 | _ => none
def bytesT (P : Program) (t : TypeId) : Nat := match P.info? t with | some i => i.bytes | none => 0
/-- The zero element of a type, as plain data. -/
def zeroD (P : Program) (elem : TypeId) : Option D :=
 match aggT P elem, zeroC P elem with
 | some true, some z => match allD z with | some ds => if ds.all D.one = true then some (.agg ds) else none | none => none
 | some false, some [.d d] => if d.one = true then some d else none
 | _, _ => none
/-- The elements that are appended, or a count of zeros. -/
def newsA (P : Program) (U elem : TypeId) (x : AV) (look : Nat → Ob) : Option (List D × List Prop) :=
 match P.underlying U with
 | some (.int _) => match x, zeroD P elem with | .d (.int _ n), some z => some (List.replicate n.toNat z, [0 ≤ n]) | _, _ => none
 | _ => match newsOf P U x look with | some l => some (l, []) | none => none
/-- A row of so many zeros. -/
def actMake (P : Program) (dst : Nat) (T : TypeId) (l c : AV) (look : Nat → Ob) : Option Eff :=
 match look (newName dst 0), P.underlying T, l, c with
 | .none, some (.slice elem), .d (.int _ n), .d (.int _ m) =>
  match zeroC P elem, szT P elem, zeroD P elem with
  | some zc, some (s + 1), some d =>
   if zc.length = s + 1 then
    some ⟨.own (newName dst 0) (s + 1), [(newName dst 0, .row (s + 1) (List.replicate n.toNat d))], [n = m, 0 ≤ n ∧ n ≤ 9223372036854775807, (bytesT P elem : Int) * n ≤ 281474976710656]⟩
   else none
  | _, _, _ => none
 | _, _, _, _ => none
/-- What is appended to: the object (if it is one of the call's own), and the elements that stay. -/
def baseOf (x : AV) (look : Nat → Ob) : Option (Option Nat × Nat × List D) :=
 match x with
 | .own o sz => match look o with | .row _ es => some (some o, sz, es) | _ => none
 | .sub o sz lo n => match look o with | .row _ es => if lo = 0 then some (some o, sz, es.take n) else none | _ => none
 | .raw (.slice none 0 0) => some (none, 0, [])
 | _ => none
def actAppend (P : Program) (dst : Nat) (T U : TypeId) (s x : AV) (look : Nat → Ob) : Option Eff :=
 match look (newName dst 0), P.underlying T with
 | .none, some (.slice elem) =>
  match szT P elem, zeroC P elem, baseOf s look, newsA P U elem x look with
  | some sz, some z, some (o, sz', es), some (news, more) =>
   if 0 < sz ∧ z.length = sz ∧ (o = none ∨ sz' = sz) ∧ 0 < bytesT P elem then
    some ⟨.own (newName dst 0) sz, (match o with | some o => [(o, .gone)] | none => []) ++ [(newName dst 0, .row sz (es ++ news))],
     [(es.length + news.length) * bytesT P elem ≤ 140737488355328, ∀ e ∈ news, e.cells.length = sz] ++ more⟩
   else none
  | _, _, _, _ => none
 | _, _ => none
/-- Appending a stretch of a row to its own first elements: in place, for the room is there. -/
def actAppendIn (P : Program) (T U : TypeId) (s x : AV) (look : Nat → Ob) : Option Eff :=
 match s, x with
 | .sub o sz' lo m, .sub o' _ _ _ =>
  match look o, P.underlying T, P.underlying U with
  | .row _ es, some (.slice elem), some (.slice _) =>
   match szT P elem, zeroC P elem, rowOf x look with
   | some sz, some z, some news =>
    if o = o' ∧ lo = 0 ∧ sz' = sz ∧ 0 < sz ∧ z.length = sz ∧ 0 < bytesT P elem then
     some ⟨.sub o sz 0 (m + news.length), [(o, .row sz (es.take m ++ news ++ es.drop (m + news.length)))],
      [es ≠ [], m + news.length ≤ es.length, (m + news.length) * bytesT P elem ≤ 140737488355328, ∀ e ∈ news, e.cells.length = sz]⟩
    else none
   | _, _, _ => none
  | _, _, _ => none
 | _, _ => none
/-- A stretch of a row of the call's own is set to zero. -/
def actClear (P : Program) (T : TypeId) (x : AV) (look : Nat → Ob) : Option Eff :=
 match x with
 | .sub o sz' lo n =>
  match look o, P.underlying T with
  | .row _ es, some (.slice elem) =>
   match szT P elem, zeroC P elem, zeroD P elem with
   | some sz, some z, some zd =>
    if sz' = sz ∧ 0 < sz ∧ z.length = sz then
     some ⟨.dead, [(o, .row sz (es.take lo ++ List.replicate n zd ++ es.drop (lo + n)))], [es ≠ [], 0 < n, lo + n ≤ es.length]⟩
    else none
   | _, _, _ => none
  | _, _ => none
 | _ => none
def actBuiltin (P : Program) (dst : Nat) (b : Builtin) (ts : List TypeId) (args : List AV) (look : Nat → Ob) : Option Eff :=
 match b, ts, args with
 | .len, T :: _, [x] => match lenOf P T x look with | some n => pureE (.d (.int .i64 n)) | none => none
 | .min, _, l => match minI l with | some (k, n) => pureE (.d (.int k n)) | none => none
 | .max, _, l => match maxI l with | some (k, n) => pureE (.d (.int k n)) | none => none
 | .append, [T, U], [s, x] => match actAppendIn P T U s x look with | some e => some e | none => actAppend P dst T U s x look
 | .clear, [T], [x] => actClear P T x look
 | .cap, T :: _, [.raw (.slice _ _ c)] => match P.underlying T with | some (.slice _) => pureE (.d (.int .i64 c)) | _ => none
 | _, _, _ => none
/-- A contract: the function, called with these arguments (over these objects), answers this, and leaves the objects so. Given below; here any relation. -/
abbrev FnRel := FuncId → List AV → List Ob → AV → List Ob → Prop
mutual
def AV.ren (ρ : Nat → Nat) : AV → AV
 | .ptr o off => .ptr (ρ o) off
 | .rptr o sz i off => .rptr (ρ o) sz i off
 | .own o sz => .own (ρ o) sz
 | .sub o sz lo n => .sub (ρ o) sz lo n
 | .agg cs => .agg (AV.renL ρ cs)
 | .tup cs => .tup (AV.renL ρ cs)
 | .fn f cs => .fn f (AV.renL ρ cs)
 | .meth f cs => .meth f (AV.renL ρ cs)
 | .d x => .d x
 | .raw v => .raw v
 | .eptr e off => .eptr e off
 | .dead => .dead
def AV.renL (ρ : Nat → Nat) : List AV → List AV
 | [] => []
 | c :: r => c.ren ρ :: AV.renL ρ r
end
def Ob.ren (ρ : Nat → Nat) : Ob → Ob
 | .box cs => .box (AV.renL ρ cs)
 | x => x
def Ob.names : Ob → List Nat
 | .box cs => AV.namesL cs
 | _ => []
mutual
/-- A value as a callee sees it: what is not handed over (`who`) is plain data. The second part: was a row of one's own lent? -/
def AV.view (look : Nat → Ob) (kn : Bool) (who : List Nat) : AV → Option (AV × Bool)
 | .d x => some (.d x, false)
 | .raw (.slice none 0 0) => some (if kn then .raw (.slice none 0 0) else .d (.sl []), false)
 | .raw v => some (.raw v, false)
 | .ptr o off => if who.contains o then some (.ptr o off, false) else none
 | .rptr o sz i off => if who.contains o then some (.rptr o sz i off, false) else none
 | .own o sz => if who.contains o then some (.own o sz, false) else match look o with | .row _ es => some (.d (.sl es), true) | _ => none
 | .sub o sz lo n => if who.contains o then some (.sub o sz lo n, false) else match look o with | .row _ es => some (.d (.sl ((es.drop lo).take n)), true) | _ => none
 | .agg cs => match AV.viewL look kn who cs with | some (l, b) => some (mkAgg l, b) | none => none
 | .fn f cs => match AV.viewL look kn who cs with | some (l, b) => some (.fn f l, b) | none => none
 | .meth f cs => match AV.viewL look kn who cs with | some (l, b) => some (.meth f l, b) | none => none
 | _ => none
def AV.viewL (look : Nat → Ob) (kn : Bool) (who : List Nat) : List AV → Option (List AV × Bool)
 | [] => some ([], false)
 | c :: r => match c.view look kn who, AV.viewL look kn who r with | some (x, b), some (l, b') => some (x :: l, b || b') | _, _ => none
end

mutual
/-- Nothing in it leads to memory. -/
def AV.flat : AV → Bool
 | AV.d (.int _ _) => true
 | AV.d (.bool _) => true
 | AV.d (.str _) => true
 | AV.d (.agg cs) => D.flatL cs
 | .raw v => rawNil v
 | .tup cs => AV.flatL cs
 | .agg cs => AV.flatL cs
 | _ => false
def AV.flatL : List AV → Bool
 | [] => true
 | c :: r => c.flat && AV.flatL r
def D.flatL : List D → Bool
 | [] => true
 | .int _ _ :: r => D.flatL r
 | .bool _ :: r => D.flatL r
 | .str _ :: r => D.flatL r
 | _ :: _ => false
end

def idxIn (who : List Nat) (n : Nat) : Nat := who.idxOf n
def outName (who : List Nat) (dst : Nat) (i : Nat) : Nat := if i < who.length then who.getD i 0 else newName dst (i - who.length)
def zipFrom (f : Nat → Nat) : Nat → List Ob → List (Nat × Ob)
 | _, [] => []
 | i, x :: r => (f i, x) :: zipFrom f (i + 1) r
def actCallK (F : FnRel) (dst : Nat) (f : FuncId) (args : List AV) (kn : Bool) (who : List Nat) (rv : AV) (outs : List Ob) (look : Nat → Ob) : Option Eff :=
  match AV.viewL look kn who args with
  | some (l, lent) =>
   if who.Nodup ∧ (lent = false ∨ (rv.flat = true ∧ who = [] ∧ outs = [])) ∧ who.length ≤ outs.length ∧ outs.length ≤ who.length + 8 ∧
     (AV.namesL l).all who.contains = true ∧ who.all (fun n => (look n).names.all who.contains) = true ∧
     (List.range (outs.length - who.length)).all (fun j => match look (newName dst j) with | .none => true | _ => false) = true ∧
     who.all (fun n => match look n with | .box _ => true | .row _ _ => true | _ => false) = true ∧
     rv.names.all (· < outs.length) = true ∧ outs.all (fun x => x.names.all (· < outs.length)) = true
   then
    some ⟨rv.ren (outName who dst), (zipFrom (outName who dst) 0 (outs.map (Ob.ren (outName who dst)))),
     [F f (AV.renL (idxIn who) l) (who.map fun n => (look n).ren (idxIn who)) rv outs]⟩
   else none
  | none => none
/-- All its cells are plain data. -/
def Ob.plain : Ob → Bool
 | .box cs => cs.all fun | .d _ => true | _ => false
 | .row _ _ => true
 | _ => false
/-- A call that leaves what it is lent as it was. -/
def actLook (F : FnRel) (dst : Nat) (f : FuncId) (args : List AV) (who : List Nat) (rv : AV) (look : Nat → Ob) : Option Eff :=
 if who.all (fun n => (look n).plain) = true then
  match actCallK F dst f args false who rv (who.map look) look with
  | some e => some ⟨e.val, [], e.obs⟩
  | none => none
 else none
def actCallH (F : FnRel) (dst : Nat) (f : FuncId) (args : List AV) (h : OH) (look : Nat → Ob) : Option Eff :=
 match h with
 | .call who rv outs => actCallK F dst f args false who rv outs look
 | .callN who rv outs => actCallK F dst f args true who rv outs look
 | .look who rv => actLook F dst f args who rv look
 | _ => none
def dsOf : List AV → Option (List D)
 | [] => some []
 | .d x :: r => match dsOf r with | some l => some (x :: l) | none => none
 | _ :: _ => none
/-- A call: by the hint's own words, or (`.fn`) by a function that computes the answer from plain data. -/
def actCall (F : FnRel) (dst : Nat) (f : FuncId) (args : List AV) (h : OH) (look : Nat → Ob) : Option Eff :=
 match h with
 | .fn g =>
  match AV.viewL look false [] args with
  | some (l, _) => match dsOf l with
   | some ds => match g ds with
    | some (rv, outs) => actCallH F dst f args (.call [] rv outs) look
    | none => none
   | none => none
  | none => none
 | h => actCallH F dst f args h look
def calleeOf : AV → Option (FuncId × List AV × List AV)
 | .fn f cap => some (f, [], cap)
 | .meth f fs => some (f, fs, [])
 | _ => none
def optE (E : Operand → AV) : Option Operand → Option AV
 | none => none
 | some x => some (E x)
def actOp (P : Program) (F : FnRel) (h : OH) (o : Oper) (E : Operand → AV) (look : Nat → Ob) : Option Eff :=
 let dst := match o.dst with | some d => d | none => 0
 match o.op with
 | .move x => pureE (E x)
 | .assign x => pureE (E x)
 | .pick c a b => match E c with | .d (.bool true) => pureE (E a) | .d (.bool false) => pureE (E b) | _ => none
 | .alloc T => actAlloc P dst T h look
 | .box _ x => actBox dst (E x) look
 | .build T ps => actBuild P T (ps.toList.map fun p => (p.1, E p.2))
 | .buildSlice T n ps => actBuildSlice P dst T n (ps.toList.map fun p => (p.1, E p.2)) look
 | .load T x => actLoad P T (E x) h look
 | .store T a v => actStore P T (E a) (E v) h look
 | .nilCheck x => match E x with | .ptr o off => (match look o with | .box _ => pureE (.ptr o off) | _ => none) | .rptr o sz i off => (match look o with | .row _ es => some ⟨.rptr o sz i off, [], [es ≠ []]⟩ | _ => none) | .fn f cap => pureE (.fn f cap) | _ => none
 | .makeSlice T l c => actMake P dst T (E l) (E c) look
 | .binOp op T x y _ => actBin P op T (E x) (E y) look
 | .unOp op _ x => actUn op (E x)
 | .convert s t x => actConvert P dst s t (E x) h look
 | .makeFunc (.func f) first cap => if first.isEmpty then pureE (.fn f (cap.toList.map E)) else if cap.isEmpty then pureE (.meth f (first.toList.map E)) else none
 | .slice T x lo hi mx => actSlice P T (E x) (optE E lo) (optE E hi) (optE E mx) look
 | .fieldAddr T x f => actFieldAddr P T (E x) f look
 | .field T x f => actField P T (E x) f
 | .indexAddr T x i => actIndexAddr P T (E x) (E i) h look
 | .index T x i => actIndex P T (E x) (E i) h
 | .extract x i => match E x with | .tup vs => (match vs[i]? with | some v => pureE v | none => none) | _ => none
 | .call c =>
  match c.callee with
  | .builtin b => actBuiltin P dst b c.argTypes.toList (c.args.toList.map E) look
  | .value f => match calleeOf (E f) with | some (g, fs, cap) => actCall F dst g (fs ++ (c.args.toList.map E ++ cap)) h look | none => none
  | .invoke _ _ => none
 | _ => none
/-- A value that is told anew, in other words. -/
def retell (h : OH) (e : Eff) : Option Eff :=
 match h with
 | .val d' => match e.val with | .d d => some ⟨.d d', e.wr, (d = d') :: e.obs⟩ | _ => none
 | _ => some e
def argNames (o : Oper) (E : Operand → AV) : List Nat := AV.namesL (o.op.operands.toList.map E)
/-- The objects that an operation may look at. -/
def opNames (h : OH) (o : Oper) (E : Operand → AV) : List Nat :=
 let dst := match o.dst with | some d => d | none => 0
 h.who ++ argNames o E ++ (List.range 8).map (newName dst)
def narrow (names : List Nat) (O : Nat → Ob) (n : Nat) : Ob := if names.contains n then O n else .gone
def act (P : Program) (F : FnRel) (h : OH) (o : Oper) (E : Operand → AV) (O : Nat → Ob) : Option Eff :=
 match actOp P F h o E (narrow (opNames h o E) O) with
 | some e => retell h e
 | none => none
end Sx
end Go.Proofs.YtalpfhpeaaocmaaGreat
end
section
namespace Go.Proofs.YtalpfhpeaaocmaaGreat
namespace Sx
open Go.RowKit
def updL (O : Nat → Ob) : List (Nat × Ob) → Nat → Ob
 | [] => O
 | p :: r => updL (upd O p.1 p.2) r
abbrev AR (O : Nat → Ob) (β : Nat → HE) (X : Nat → Prop) (w : World) (x : AV) (v : Value) : Prop := RAV w (Mset X β) β (fun o => O o ≠ .none) x v
structure Done (O : Nat → Ob) (β : Nat → HE) (X : Nat → Prop) (w : World) (e : Eff) (v : Value) (β' : Nat → HE) (w' : World) : Prop where
 val : AR (updL O e.wr) β' X w' e.val v
 objs : Objs (updL O e.wr) β' X w'
 step : Step O (updL O e.wr) β β' w w'
section
variable {P : Program} {O : Nat → Ob} {β : Nat → HE} {X : Nat → Prop} {w : World} {look : Nat → Ob}
theorem Done.pure {x : AV} {v : Value} {obs : List Prop} (hO : Objs O β X w) (h : AR O β X w x v) : Done O β X w ⟨x, [], obs⟩ v β w :=
 ⟨h, hO, Step.refl _ _ _⟩
/-- Looking at an object: what is seen is there. -/
def Looks (O look : Nat → Ob) : Prop := ∀ n, look n = O n ∨ look n = .gone
theorem Looks.box {n : Nat} {cs : List AV} (hl : Looks O look) (h : look n = .box cs) : O n = .box cs := by
 rcases hl n with e | e
 ·rw [← e]; exact h
 ·rw [e] at h; cases h
theorem Looks.row {n sz : Nat} {es : List D} (hl : Looks O look) (h : look n = .row sz es) : O n = .row sz es := by
 rcases hl n with e | e
 ·rw [← e]; exact h
 ·rw [e] at h; cases h
theorem Looks.none {n : Nat} (hl : Looks O look) (h : look n = .none) : O n = .none := by
 rcases hl n with e | e
 ·rw [← e]; exact h
 ·rw [e] at h; cases h
/-- What a box is in memory. -/
theorem Objs.box {n : Nat} {cs : List AV} (hO : Objs O β X w) (h : O n = .box cs) : ∃ b cur t lo hi, β n = .box b ∧ w.heap[b]? = some (.cells cur t (lo, hi)) ∧
  (∀ j, j < cur.size → ¬ (lo ≤ j ∧ j < hi)) ∧ cur.size = cs.length ∧ ∀ j x, cs[j]? = some x → AR O β X w x (cur.getD j undef) := by
 have hr := hO.rel n
 rw [h] at hr
 generalize β n = g at hr
 cases hr with
 | box cs b cur t lo hi hb hf hl hh => exact ⟨b, cur, t, lo, hi, rfl, hb, fun j _ => hf j, hl, hh⟩
/-- No mark anywhere in a box's block, nor behind it. -/
theorem Objs.boxS {n : Nat} {cs : List AV} (hO : Objs O β X w) (h : O n = .box cs) : ∃ b cur t lo hi, β n = .box b ∧ w.heap[b]? = some (.cells cur t (lo, hi)) ∧
  (∀ j, ¬ (lo ≤ j ∧ j < hi)) ∧ cur.size = cs.length ∧ ∀ j x, cs[j]? = some x → AR O β X w x (cur.getD j undef) := by
 have hr := hO.rel n
 rw [h] at hr
 generalize β n = g at hr
 cases hr with
 | box cs b cur t lo hi hb hf hl hh => exact ⟨b, cur, t, lo, hi, rfl, hb, hf, hl, hh⟩
theorem Objs.row {n sz : Nat} {es : List D} (hO : Objs O β X w) (h : O n = .row sz es) : (es = [] ∧ β n = .row sz 0 none) ∨ ∃ b cur t lo hi, β n = .row sz es.length (some (b, cur.size)) ∧
  w.heap[b]? = some (.cells cur t (lo, hi)) ∧ Fz lo hi cur.size ∧ (∀ e ∈ es, e.cells.length = sz ∧ ∀ d ∈ e.cells, d.one = true) ∧ es.length * sz ≤ cur.size ∧
  ∀ i j e d, es[i]? = some e → e.cells[j]? = some d → RepD w (Mset X β) d (cur.getD (i * sz + j) undef) := by
 have hr := hO.rel n
 rw [h] at hr
 generalize β n = g at hr
 cases hr with
 | rowN sz => exact .inl ⟨rfl, rfl⟩
 | row sz es b cur t lo hi hb hf hsz hl hh => exact .inr ⟨b, cur, t, lo, hi, rfl, hb, hf, hsz, hl, hh⟩
theorem RepD.int_inv {M : Nat → Prop} {k : IntKind} {n : Int} {v : Value} (h : RepD w M (.int k n) v) : v = .int k n := by cases h; rfl
theorem RepD.bool_inv {M : Nat → Prop} {b : Bool} {v : Value} (h : RepD w M (.bool b) v) : v = .bool b := by cases h; rfl
theorem RepD.str_inv {M : Nat → Prop} {s : List UInt8} {v : Value} (h : RepD w M (.str s) v) : v = .string ⟨s.toArray⟩ := by cases h; rfl
theorem RAV.d_inv {M : Nat → Prop} {C : Nat → Prop} {d : D} {v : Value} (h : RAV w M β C (.d d) v) : RepD w M d v := by cases h; assumption
theorem RAV.raw_inv {M : Nat → Prop} {C : Nat → Prop} {u v : Value} (h : RAV w M β C (.raw u) v) : v = u := by cases h; rfl
theorem RepD.one {M : Nat → Prop} {d : D} {v : Value} (h : RepD w M d v) (ho : d.one = true) : v.oneCell' = true ∧ v.cells = #[v] := by
 cases h <;> first | exact ⟨rfl, rfl⟩ | (simp [D.one] at ho)
theorem RAV.one {M : Nat → Prop} {C : Nat → Prop} {x : AV} {v : Value} (h : RAV w M β C x v) (ho : x.one = true)
  (hv : ∀ o, (x = .ptr o 0 ∨ True) → True) (hp : ∀ u, v = u → v.oneCell' = true ∨ (∃ o off, x = .ptr o off) ∨ (∃ o sz i off, x = .rptr o sz i off) ∨ (∃ o sz, x = .own o sz) ∨ (∃ o sz lo n, x = .sub o sz lo n) ∨ True) : True := trivial
/-- Cells laid by a list of values that stand for a list of abstract ones. -/
theorem allD_spec {cs : List AV} {ds : List D} (h : allD cs = some ds) : cs = ds.map .d := by
 induction cs generalizing ds with
 | nil => cases h; rfl
 | cons c r ih =>
  cases c <;> simp only [allD] at h <;> try cases h
  split at h
  ·next l hl =>
   cases h
   rw [ih hl]
   rfl
  ·cases h
theorem mkAgg_ok {M : Nat → Prop} {C : Nat → Prop} {cs : List AV} {vs : Array Value} (hl : vs.size = cs.length) (h : ∀ j x, cs[j]? = some x → RAV w M β C x (vs.getD j undef)) :
  RAV w M β C (mkAgg cs) (.agg vs) := by
 unfold mkAgg
 split
 ·next ds hds =>
  have hcs := allD_spec hds
  subst hcs
  split
  ·next hall =>
   refine .d _ _ (.agg ds vs (by simpa using hl) (fun d hd => List.all_eq_true.1 hall d hd) fun j d hj => ?_)
   exact (h j (.d d) (by simp [hj])).d_inv
  ·exact .agg _ _ hl h
 ·exact .agg _ _ hl h
theorem aggT_run {T : TypeId} {ag : Bool} (h : aggT P T = some ag) (w : World) : (isAgg T).run P w = .ok ag w := by
 unfold aggT at h
 split at h
 ·next f hu => cases h; simp [isAgg, run_underlying hu]
 ·next n e hu => cases h; simp [isAgg, run_underlying hu]
 ·next d hu1 hu2 hu => cases h; simp only [isAgg, Sem.run_bind, run_underlying hu, Result.andThen_ok]; first | rfl | (split <;> first | rfl | (exfalso; simp_all))
 ·cases h
theorem szT_run {T : TypeId} {n : Nat} (h : szT P T = some n) (w : World) : (sizeOf T).run P w = .ok n w := by
 unfold szT at h
 split at h
 ·next i hi => cases h; simp [sizeOf, typeInfo, hi]
 ·cases h
theorem szT_info {T : TypeId} {n : Nat} (h : szT P T = some n) : ∃ i, P.info? T = some i ∧ i.size = n := by
 unfold szT at h
 split at h
 ·next i hi => exact ⟨i, hi, by cases h; rfl⟩
 ·cases h
/-- Loading a variable whose cells are known. -/
theorem loadVar_ok {T : TypeId} {ag : Bool} {n : Nat} (hag : aggT P T = some ag) (hn : szT P T = some n) (a : Addr) (f : Nat → Value)
  (hc : ∀ j, j < (if ag then n else 1) → w.cell? (a.add j) = some (f j)) :
  (loadVar T a).run P w = .ok (if ag then .agg ((List.range n).map f).toArray else f 0) w := by
 cases ag with
 | true => simp [loadVar, aggT_run hag, szT_run hn, run_loadCells (P := P) w a n f (by simpa using hc)]
 | false =>
  have h0 := hc 0 (by simp)
  simp only [Addr.add, if_true] at h0
  simp [loadVar, aggT_run hag, run_load, h0]
theorem getD_range (n : Nat) (f : Nat → Value) (j : Nat) (hj : j < n) : ((List.range n).map f).toArray.getD j undef = f j := by
 simp [Array.getD_eq_getD_getElem?, hj]
theorem partD_ok {M : Nat → Prop} {ag : Bool} {n : Nat} {cs : List D} {off : Nat} {d : D} (h : partD ag n cs off = some d) (ho : ∀ c ∈ cs, c.one = true) (f : Nat → Value)
  (hr : ∀ j c, cs[off + j]? = some c → RepD w M c (f j)) : RepD w M d (if ag then .agg ((List.range n).map f).toArray else f 0) := by
 unfold partD at h
 cases ag with
 | true =>
  simp only [if_true] at h ⊢
  split at h
  ·next hle =>
   cases h
   refine .agg _ _ (by simp; omega) (fun c hc => ho c (List.mem_of_mem_drop (List.mem_of_mem_take hc))) fun j c hj => ?_
   have hjn : j < n := by
    rcases Nat.lt_or_ge j n with h | h
    ·exact h
    ·rw [List.getElem?_eq_none (by simp; omega)] at hj; cases hj
   rw [getD_range n f j hjn]
   refine hr j c ?_
   rw [List.getElem?_take_of_lt hjn, List.getElem?_drop] at hj
   exact hj
  ·cases h
 | false => exact hr 0 d (by simpa using h)
theorem partD_lt {ag : Bool} {n : Nat} {cs : List D} {off : Nat} {d : D} (h : partD ag n cs off = some d) : ∀ j, j < (if ag then n else 1) → off + j < cs.length := by
 unfold partD at h
 cases ag with
 | true =>
  simp only [if_true] at h ⊢
  split at h
  ·intro j hj; omega
  ·cases h
 | false =>
  intro j hj
  simp at hj
  subst hj
  exact (List.getElem?_eq_some_iff.1 (by simpa using h)).1
theorem cellIn {b off : Nat} {cur : Array Value} {t lo hi : Nat} (hb : w.heap[b]? = some (.cells cur t (lo, hi))) (h : off < cur.size) : w.cell? ⟨b, off, none⟩ = some (cur.getD off undef) := by
 simp [World.cell?, hb, h, Array.getD_eq_getD_getElem?]
theorem flat1_len {es : List D} (h : ∀ e ∈ es, e.cells.length = 1) : (es.flatMap D.cells).length = es.length := by
 induction es with
 | nil => rfl
 | cons e r ih => simp [List.flatMap_cons, h e (by simp), ih fun x hx => h x (by simp [hx])]; omega
theorem flat1_get {es : List D} (h : ∀ e ∈ es, e.cells.length = 1) {j : Nat} {d : D} (hj : (es.flatMap D.cells)[j]? = some d) : ∃ e, es[j]? = some e ∧ e.cells[0]? = some d := by
 induction es generalizing j with
 | nil => simp at hj
 | cons e r ih =>
  have h1 := h e (by simp)
  match hc : e.cells, h1 with
  | [c], _ =>
   rw [List.flatMap_cons, hc] at hj
   cases j with
   | zero => exact ⟨e, rfl, by rw [hc]; simpa using hj⟩
   | succ j => exact ih (fun x hx => h x (by simp [hx])) (by simpa using hj)
theorem actLoad_ok {T : TypeId} {x : AV} {h : OH} {e : Eff} {vx : Value} (hO : Objs O β X w) (hl : Looks O look) (hx : AR O β X w x vx) (ha : actLoad P T x h look = some e) (hob : ∀ p ∈ e.obs, p) :
  ∃ v, (Instr.loadAt T vx).run P w = .ok v w ∧ AR O β X w e.val v ∧ e.wr = [] := by
 unfold actLoad at ha
 split at ha
 ·next ag n hag hn =>
  split at ha
  ·
   next o off =>
   split at ha
   ·next cs hlk =>
    obtain ⟨b, cur, t, lo, hi, hβ, hb, -, hsz, hr⟩ := hO.box (hl.box hlk)
    cases hx with
    | ptr o off v hC hone hv =>
     obtain rfl := hv b hβ
     have hrun : ∀ m, off + m ≤ cs.length → ∀ j, j < m → w.cell? ((Addr.mk b off none).add j) = some (cur.getD (off + j) undef) := fun m hm j hj => by
      rw [add_mk]; exact cellIn hb (by omega)
     cases ag with
     | true =>
      simp only [if_true] at ha
      split at ha
      ·next hle =>
       cases ha
       have := loadVar_ok hag hn (Addr.mk b off none) (fun j => cur.getD (off + j) undef) (by simpa using hrun n hle)
       refine ⟨_, by simpa [Instr.loadAt, Instr.sureAddr] using this, ?_, rfl⟩
       refine mkAgg_ok (by simp; omega) fun j y hj => ?_
       have hjn : j < n := by
        rcases Nat.lt_or_ge j n with h | h
        ·exact h
        ·rw [List.getElem?_eq_none (by simp; omega)] at hj; cases hj
       rw [getD_range _ _ j hjn]
       rw [List.getElem?_take_of_lt hjn, List.getElem?_drop] at hj
       simpa using hr _ _ hj
      ·cases ha
     | false =>
      simp only [Bool.false_eq_true, if_false] at ha
      split at ha
      ·next c hc =>
       cases ha
       have hlt := (List.getElem?_eq_some_iff.1 hc).1
       have := loadVar_ok hag hn (Addr.mk b off none) (fun j => cur.getD (off + j) undef) (by intro j hj; exact hrun 1 (by omega) j (by simpa using hj))
       exact ⟨_, by simpa [Instr.loadAt, Instr.sureAddr] using this, hr _ _ hc, rfl⟩
      ·cases ha
   ·cases ha
  ·
   next el off =>
   split at ha
   ·next d hd =>
    cases ha
    cases hx with
    | eptr e off p f hb hM ho hc hr =>
     have hlt := partD_lt hd
     have := loadVar_ok hag hn p f (fun j hj => hc j _ (List.getElem?_eq_getElem (hlt j hj)))
     exact ⟨_, by simpa [Instr.loadAt, Instr.sureAddr] using this, .d _ _ (partD_ok hd ho f hr), rfl⟩
   ·cases ha
  ·
   next o sz i off =>
   split at ha
   ·next sz' es hlk =>
    have hrow := hO.row (hl.row hlk)
    split at ha
    ·next el =>
     split at ha
     ·next hel =>
      split at ha
      ·next d hd =>
       cases ha
       have e1 : sz' = sz := hob _ (by simp)
       have e2 : es[i]? = some el := hob _ (by simp)
       subst e1
       rcases hrow with ⟨hes, -⟩ | ⟨b, cur, t, lo, hi, hβ, hb, -, hsz, hlen, hr⟩
       ·subst hes; simp at e2
       ·cases hx with
        | rptr o sz i off v hC hone hv =>
         obtain ⟨-, rfl⟩ := hv _ _ _ _ hβ
         have hil := (List.getElem?_eq_some_iff.1 e2).1
         have hlt := partD_lt hd
         have hfit : i * sz' + sz' ≤ cur.size := by
          have : (i + 1) * sz' ≤ es.length * sz' := Nat.mul_le_mul_right _ hil
          rw [Nat.succ_mul] at this; omega
         have := loadVar_ok hag hn (Addr.mk b (i * sz' + off) none) (fun j => cur.getD (i * sz' + (off + j)) undef)
          (fun j hj => by rw [add_mk, Nat.add_assoc]; exact cellIn hb (by have := hlt j hj; omega))
         refine ⟨_, by simpa [Instr.loadAt, Instr.sureAddr] using this, .d _ _ ?_, rfl⟩
         exact partD_ok hd (hsz el (List.mem_of_getElem? e2)).2 _ (fun j c hj => by simpa using hr i (off + j) el c e2 hj)
      ·cases ha
     ·cases ha
    ·split at ha
     ·next hagt =>
      obtain ⟨rfl, rfl⟩ := hagt
      cases ha
      have e1 : sz' = 1 := hob _ (by simp)
      have e2 : i = 0 := hob _ (by simp)
      have e3 : off = 0 := hob _ (by simp)
      have e4 : es.length = n := hob _ (by simp)
      have h0 : es ≠ [] := hob _ (by simp)
      subst e1 e2 e3 e4
      cases hx with
      | rptr o sz i off v hC hone hv =>
       rcases hrow with ⟨hes, hβ⟩ | ⟨b, cur, t, lo, hi, hβ, hb, -, hsz, hlen, hr⟩
       ·exact absurd hes h0
       ·obtain ⟨-, rfl⟩ := hv _ _ _ _ hβ
        have := loadVar_ok hag hn (Addr.mk b (0 * 1 + 0) none) (fun j => cur.getD j undef)
         (fun j hj => by rw [add_mk]; simp only [Nat.zero_mul, Nat.zero_add]; exact cellIn hb (by simp at hj; omega))
        refine ⟨_, by simpa [Instr.loadAt, Instr.sureAddr] using this, .d _ _ (.agg _ _ ?_ ?_ ?_), rfl⟩
        ·rw [flat1_len (fun e he => (hsz e he).1)]; simp
        ·intro d hd
         obtain ⟨e, he, hd⟩ := List.mem_flatMap.1 hd
         exact (hsz e he).2 d hd
        ·intro j d hj
         obtain ⟨e, he, hd⟩ := flat1_get (fun e he => (hsz e he).1) hj
         have hjn := (List.getElem?_eq_some_iff.1 he).1
         rw [getD_range _ _ j hjn]
         simpa using hr j 0 e d he hd
     ·cases ha
    ·cases ha
   ·cases ha
  ·cases ha
 ·cases ha
theorem fieldPlace_ok {fd : Field} {n : Nat} (hn : szT P fd.type = some (n + 1)) (a : Addr) : (fieldPlace a fd).run P w = .ok (a.add fd.offset) w := by
 simp [fieldPlace, szT_run hn]
theorem actFieldAddr_ok {T : TypeId} {x : AV} {f : Nat} {e : Eff} {vx : Value} (hO : Objs O β X w) (hl : Looks O look) (hx : AR O β X w x vx) (ha : actFieldAddr P T x f look = some e) (hob : ∀ p ∈ e.obs, p) :
  ∃ v, (Instr.fieldAt T vx f).run P w = .ok v w ∧ AR O β X w e.val v ∧ e.wr = [] := by
 unfold actFieldAddr at ha
 split at ha
 ·next fs hu =>
  split at ha
  ·next fd hfd =>
   split at ha
   ·next n hn =>
    have hrun : ∀ a, (Instr.fieldAt T (.pointer (some a)) f).run P w = .ok (.pointer (some (a.add fd.offset))) w := fun a => by
     simp [Instr.fieldAt, run_underlying hu, hfd, Instr.sureAddr, fieldPlace_ok hn]
    split at ha
    ·next o off =>
     split at ha
     ·next cs hlk =>
      cases ha
      obtain ⟨b, cur, t, lo, hi, hβ, hb, -, hsz, hr⟩ := hO.box (hl.box hlk)
      cases hx with
      | ptr o off v hC hone hv =>
       obtain rfl := hv b hβ
       refine ⟨_, hrun _, .ptr _ _ _ hC rfl fun b' hb' => ?_, rfl⟩
       rw [hβ] at hb'
       cases hb'
       rw [add_mk]
     ·cases ha
    ·next o sz i off =>
     split at ha
     ·next sz' es hlk =>
      cases ha
      have hil : i < es.length := hob _ (by simp)
      rcases hO.row (hl.row hlk) with ⟨hes, -⟩ | ⟨b, cur, t, lo, hi, hβ, hb, -, hsz, hlen, hr⟩
      ·subst hes; simp at hil
      ·cases hx with
       | rptr o sz i off v hC hone hv =>
        obtain ⟨rfl, rfl⟩ := hv _ _ _ _ hβ
        refine ⟨_, hrun _, .rptr _ _ _ _ _ hC rfl fun sz2 len b' n' hb' => ?_, rfl⟩
        rw [hβ] at hb'
        cases hb'
        rw [add_mk, Nat.add_assoc]
        exact ⟨rfl, rfl⟩
     ·cases ha
    ·next el off =>
     cases ha
     cases hx with
     | eptr el off p g hb hM ho hc hr =>
      refine ⟨_, hrun p, .eptr _ _ _ (fun j => g (fd.offset + j)) (by rw [block_add]; exact hb) (by rw [block_add]; exact hM) ho (fun j d hj => ?_) (fun j d hj => ?_), rfl⟩
      ·rw [add_add]; exact hc (fd.offset + j) d (by rw [← hj, Nat.add_assoc])
      ·exact hr (fd.offset + j) d (by rw [← hj, Nat.add_assoc])
    ·cases ha
   ·cases ha
  ·cases ha
 ·cases ha
theorem idxOf_inv {x : AV} {k : IntKind} {i : Int} {v : Value} (h : idxOf x = some (k, i)) (hx : AR O β X w x v) : v = .int k i := by
 unfold idxOf at h
 split at h
 ·cases h; exact hx.d_inv.int_inv
 ·cases h
theorem actIndexAddr_ok {T : TypeId} {x y : AV} {h : OH} {e : Eff} {vx vy : Value} (hO : Objs O β X w) (hl : Looks O look) (hx : AR O β X w x vx) (hy : AR O β X w y vy)
  (ha : actIndexAddr P T x y h look = some e) (hob : ∀ p ∈ e.obs, p) :
  ∃ v, (Instr.indexAt T vx vy).run P w = .ok v w ∧ AR O β X w e.val v ∧ e.wr = [] := by
 unfold actIndexAddr at ha
 split at ha
 ·next k i hidx =>
  obtain rfl := idxOf_inv hidx hy
  split at ha
  ·next elem hu =>
   split at ha
   ·next sz hsz =>
    have hrun : ∀ a n c, 0 ≤ i → i < (n : Nat) → (Instr.indexAt T (.slice (some a) n c) (.int k i)).run P w = .ok (.pointer (some (a.add (i.toNat * sz)))) w := fun a n c h0 h1 => by
     simp [Instr.indexAt, asIntOf, run_underlying hu, h0, h1, szT_run hsz]
    split at ha
    ·next es =>
     split at ha
     ·next el =>
      split at ha
      ·next hel =>
       cases ha
       have h0 : 0 ≤ i := hob _ (by simp)
       have h1 : es[i.toNat]? = some el := hob _ (by simp)
       have hlt := (List.getElem?_eq_some_iff.1 h1).1
       cases hx with
       | d d v hd =>
        cases hd with
        | nil a c => simp at hlt
        | sl es a c sz' f hn hb hM hsz' hc hr =>
         have hs := hsz' el (List.mem_of_getElem? h1)
         have hss : sz' = sz := hs.1.symm.trans hel
         subst hss
         refine ⟨_, hrun a _ c h0 (by omega), .eptr _ _ _ (f i.toNat) (by rw [block_add]; exact hb) (by rw [block_add]; exact hM) hs.2 (fun j d hj => ?_) (fun j d hj => ?_), rfl⟩
         ·rw [add_add]
          exact hc i.toNat j hlt (by rw [← hel]; exact (List.getElem?_eq_some_iff.1 (by simpa using hj)).1)
         ·exact hr i.toNat j el d h1 (by simpa using hj)
      ·cases ha
     ·cases ha
    ·next o sz' =>
     split at ha
     ·next szr es hlk =>
      split at ha
      ·next hss =>
       subst hss
       cases ha
       have h0 : 0 ≤ i ∧ i < es.length := hob _ (by simp)
       rcases hO.row (hl.row hlk) with ⟨hes, -⟩ | ⟨b, cur, t, lo, hi, hβ, hb, -, hsz2, hlen, hr⟩
       ·subst hes; simp at h0; omega
       ·cases hx with
        | own o sz v hC hone hv =>
         obtain ⟨rfl, a, c, rfl, hnc, hbk⟩ := hv _ _ _ hβ
         obtain ⟨b', cnt, hg, rfl, hle⟩ := hbk (by omega)
         cases hg
         refine ⟨_, hrun _ _ c h0.1 h0.2, .rptr _ _ _ _ _ hC rfl fun sz2 len b' n' hb' => ?_, rfl⟩
         rw [hβ] at hb'
         cases hb'
         exact ⟨rfl, by rw [add_mk]; simp⟩
      ·cases ha
     ·cases ha
    ·next o sz' lo' n =>
     split at ha
     ·next szr es hlk =>
      split at ha
      ·next hss =>
       subst hss
       cases ha
       have h0 : 0 ≤ i ∧ i < n := hob _ (by simp)
       cases hx with
       | sub o sz lo' n v hC hone hv =>
        rcases hO.row (hl.row hlk) with ⟨hes, hβ⟩ | ⟨b, cur, t, lo, hi, hβ, hb, -, hsz2, hlen, hr⟩
        ·obtain ⟨-, hle, -⟩ := hv _ _ _ hβ
         omega
        ·obtain ⟨rfl, hle0, a, c, rfl, hnc, hbk⟩ := hv _ _ _ hβ
         obtain ⟨b', cnt, hg, rfl, hle⟩ := hbk (by omega)
         cases hg
         refine ⟨_, hrun _ _ c h0.1 h0.2, .rptr _ _ _ _ _ hC rfl fun sz2 len b' n' hb' => ?_, rfl⟩
         rw [hβ] at hb'
         cases hb'
         exact ⟨rfl, by rw [add_mk, Nat.add_mul]; simp⟩
      ·cases ha
     ·cases ha
    ·cases ha
   ·cases ha
  ·next len elem hu =>
   split at ha
   ·next sz hsz =>
    have hrun : ∀ a, 0 ≤ i → i < (len : Nat) → (Instr.indexAt T (.pointer (some a)) (.int k i)).run P w = .ok (.pointer (some (a.add (i.toNat * sz)))) w := fun a h0 h1 => by
     simp [Instr.indexAt, Instr.sureAddr, asIntOf, run_underlying hu, h0, h1, szT_run hsz]
    split at ha
    ·next o off =>
     split at ha
     ·next cs hlk =>
      cases ha
      have h0 : 0 ≤ i ∧ i < len := hob _ (by simp)
      obtain ⟨b, cur, t, lo, hi, hβ, hb, -, -, hr⟩ := hO.box (hl.box hlk)
      cases hx with
      | ptr o off v hC hone hv =>
       obtain rfl := hv b hβ
       refine ⟨_, hrun _ h0.1 h0.2, .ptr _ _ _ hC rfl fun b' hb' => ?_, rfl⟩
       rw [hβ] at hb'
       cases hb'
       rw [add_mk]
     ·cases ha
    ·next o sz' j off =>
     split at ha
     ·next szr es hlk =>
      split at ha
      ·next hss =>
       subst hss
       cases ha
       have e1 : j = 0 := hob _ (by simp)
       have e2 : off = 0 := hob _ (by simp)
       have h0 : 0 ≤ i ∧ i < len := hob _ (by simp)
       have h3 : i < es.length := hob _ (by simp)
       subst e1 e2
       rcases hO.row (hl.row hlk) with ⟨hes, -⟩ | ⟨b, cur, t, lo, hi, hβ, hb, -, hsz2, hlen, hr⟩
       ·subst hes; simp at h3; omega
       ·cases hx with
        | rptr o sz i' off v hC hone hv =>
         obtain ⟨rfl, rfl⟩ := hv _ _ _ _ hβ
         refine ⟨_, hrun _ h0.1 h0.2, .rptr _ _ _ _ _ hC rfl fun sz2 len b' n' hb' => ?_, rfl⟩
         rw [hβ] at hb'
         cases hb'
         exact ⟨rfl, by rw [add_mk]; simp⟩
      ·cases ha
     ·cases ha
    ·next el off =>
     cases ha
     have h0 : 0 ≤ i ∧ i < len := hob _ (by simp)
     cases hx with
     | eptr el off p g hb hM ho hc hr =>
      refine ⟨_, hrun p h0.1 h0.2, .eptr _ _ _ (fun j => g (i.toNat * sz + j)) (by rw [block_add]; exact hb) (by rw [block_add]; exact hM) ho (fun j d hj => ?_) (fun j d hj => ?_), rfl⟩
      ·rw [add_add]; exact hc (i.toNat * sz + j) d (by rw [← hj, Nat.add_assoc])
      ·exact hr (i.toNat * sz + j) d (by rw [← hj, Nat.add_assoc])
    ·cases ha
   ·cases ha
  ·cases ha
 ·cases ha
end
end Sx
end Go.Proofs.YtalpfhpeaaocmaaGreat
end
section
namespace Go.Proofs.YtalpfhpeaaocmaaGreat
namespace Sx
open Go.RowKit
section
variable {P : Program} {O : Nat → Ob} {β : Nat → HE} {X : Nat → Prop} {w : World} {look : Nat → Ob}
theorem part_ok {M : Nat → Prop} {T : TypeId} {ag : Bool} {n off : Nat} {cs : List D} {vs : Array Value} {d : D} (hag : aggT P T = some ag) (hn : szT P T = some n) (hd : partD ag n cs off = some d)
  (hl : vs.size = cs.length) (ho : ∀ c ∈ cs, c.one = true) (hr : ∀ j c, cs[j]? = some c → RepD w M c (vs.getD j undef)) : ∃ v, (part T vs off).run P w = .ok v w ∧ RepD w M d v := by
 unfold partD at hd
 cases ag with
 | true =>
  simp only [if_true] at hd
  split at hd
  ·next hle =>
   cases hd
   refine ⟨.agg (vs.extract off (off + n)), by simp [part, aggT_run hag, szT_run hn], .agg _ _ (by simp; omega) (fun c hc => ho c (List.mem_of_mem_drop (List.mem_of_mem_take hc))) fun j c hj => ?_⟩
   have hjn : j < n := by
    rcases Nat.lt_or_ge j n with h | h
    ·exact h
    ·rw [List.getElem?_eq_none (by simp; omega)] at hj; cases hj
   rw [List.getElem?_take_of_lt hjn, List.getElem?_drop] at hj
   have := hr _ _ hj
   have e : (vs.extract off (off + n)).getD j undef = vs.getD (off + j) undef := by
    simp only [Array.getD_eq_getD_getElem?, Array.getElem?_extract]
    rw [if_pos (by omega)]
   rw [e]; exact this
  ·cases hd
 | false =>
  have hc : cs[off]? = some d := by simpa using hd
  have hlt := (List.getElem?_eq_some_iff.1 hc).1
  have hv : vs[off]? = some (vs.getD off undef) := by simp [Array.getD_eq_getD_getElem?, show off < vs.size by omega]
  exact ⟨_, by simp only [part, Sem.run_bind, aggT_run hag, Result.andThen_ok, Bool.false_eq_true, if_false, hv]; rfl, hr _ _ hc⟩
theorem agg_inv {cs : List D} {v : Value} (hx : AR O β X w (.d (.agg cs)) v) : ∃ vs, v = .agg vs ∧ vs.size = cs.length ∧ (∀ d ∈ cs, d.one = true) ∧ ∀ j d, cs[j]? = some d → RepD w (Mset X β) d (vs.getD j undef) := by
 have h := hx.d_inv
 cases h with
 | agg cs vs hl ho hr => exact ⟨vs, rfl, hl, ho, hr⟩
theorem actIndex_ok {T : TypeId} {x y : AV} {h : OH} {e : Eff} {vx vy : Value} (hx : AR O β X w x vx) (hy : AR O β X w y vy)
  (ha : actIndex P T x y h = some e) (hob : ∀ p ∈ e.obs, p) :
  ∃ v, (Instr.index T vx vy).run P w = .ok v w ∧ AR O β X w e.val v ∧ e.wr = [] := by
 unfold actIndex at ha
 split at ha
 ·next k i hidx =>
  obtain rfl := idxOf_inv hidx hy
  split at ha
  ·next len elem hu =>
   split at ha
   ·next sz ag hsz hag =>
    split at ha
    ·next cs =>
     obtain ⟨vs, rfl, hl, ho, hr⟩ := agg_inv hx
     split at ha
     ·next l =>
      split at ha
      ·next hc =>
       obtain ⟨rfl, hlen⟩ := hc
       cases ha
       have h0 : 0 ≤ i ∧ i < len := hob _ (by simp)
       have h1 : (cs.drop (i.toNat * sz)).take sz = l := hob _ (by simp)
       have hle : i.toNat * sz + sz ≤ cs.length ∨ sz = 0 := by
        rw [← h1] at hlen; simp at hlen; omega
       have hd : partD true sz cs (i.toNat * sz) = some (.agg l) := by
        unfold partD
        rw [if_pos rfl]
        rcases hle with h | h
        ·rw [if_pos h, h1]
        ·subst h; simp at h1 ⊢; exact h1
       obtain ⟨v, hv, hrv⟩ := part_ok hag hsz hd hl ho hr
       exact ⟨v, by simp [Instr.index, asIntOf, run_underlying hu, h0.1, h0.2, szT_run hsz, hv], .d _ _ hrv, rfl⟩
      ·cases ha
     ·next el _ =>
      cases ag with
      | true => simp at ha
      | false =>
       simp only [Bool.false_eq_true, if_false] at ha
       cases ha
       have h0 : 0 ≤ i ∧ i < len := hob _ (by simp)
       have h1 : cs[i.toNat * sz]? = some el := hob _ (by simp)
       obtain ⟨v, hv, hrv⟩ := part_ok (d := el) hag hsz (by simpa [partD] using h1) hl ho hr
       exact ⟨v, by simp [Instr.index, asIntOf, run_underlying hu, h0.1, h0.2, szT_run hsz, hv], .d _ _ hrv, rfl⟩
     ·cases ha
    ·cases ha
   ·cases ha
  ·next hu =>
   split at ha
   ·next s c =>
    cases ha
    have h0 : 0 ≤ i := hob _ (by simp)
    have h1 : s[i.toNat]? = some c := hob _ (by simp)
    obtain rfl := hx.d_inv.str_inv
    have hb : (⟨s.toArray⟩ : ByteArray)[i.toNat]? = some c := by
     obtain ⟨hlt, he⟩ := List.getElem?_eq_some_iff.1 h1
     rw [getElem?_def]
     have hlt' : i.toNat < (⟨s.toArray⟩ : ByteArray).size := by simpa [ByteArray.size] using hlt
     rw [dif_pos hlt']
     congr 1
    refine ⟨_, by simp only [Instr.index, asIntOf, Sem.run_bind, Sem.run_pure, Result.andThen_ok, run_underlying hu, h0, if_true, hb], .d _ _ (.int _ _), rfl⟩
   ·cases ha
  ·cases ha
 ·cases ha
theorem actField_ok {T : TypeId} {x : AV} {f : Nat} {e : Eff} {vx : Value} (hx : AR O β X w x vx) (ha : actField P T x f = some e) :
  ∃ v, (Instr.field T vx f).run P w = .ok v w ∧ AR O β X w e.val v ∧ e.wr = [] := by
 unfold actField at ha
 split at ha
 ·next fs hu =>
  split at ha
  ·next fd hfd =>
   split at ha
   ·next n ag hn hag =>
    split at ha
    ·next cs =>
     split at ha
     ·next d hd =>
      cases ha
      obtain ⟨vs, rfl, hl, ho, hr⟩ := agg_inv hx
      obtain ⟨v, hv, hrv⟩ := part_ok hag hn hd hl ho hr
      exact ⟨v, by simp [Instr.field, run_underlying hu, hfd, asAgg, hv], .d _ _ hrv, rfl⟩
     ·cases ha
    ·next cs =>
     cases hx with
     | agg cs vs hl hr =>
      cases ag with
      | true =>
       simp only [if_true] at ha
       split at ha
       ·next hle =>
        cases ha
        refine ⟨.agg (vs.extract fd.offset (fd.offset + n)), by simp [Instr.field, run_underlying hu, hfd, asAgg, part, aggT_run hag, szT_run hn], mkAgg_ok (by simp; omega) fun j y hj => ?_, rfl⟩
        have hjn : j < n := by
         rcases Nat.lt_or_ge j n with h | h
         ·exact h
         ·rw [List.getElem?_eq_none (by simp; omega)] at hj; cases hj
        rw [List.getElem?_take_of_lt hjn, List.getElem?_drop] at hj
        have e : (vs.extract fd.offset (fd.offset + n)).getD j undef = vs.getD (fd.offset + j) undef := by
         simp only [Array.getD_eq_getD_getElem?, Array.getElem?_extract]
         rw [if_pos (by omega)]
        rw [e]; exact hr _ _ hj
       ·cases ha
      | false =>
       simp only [Bool.false_eq_true, if_false] at ha
       split at ha
       ·next c hc =>
        cases ha
        have hlt := (List.getElem?_eq_some_iff.1 hc).1
        have hv : vs[fd.offset]? = some (vs.getD fd.offset undef) := by simp [Array.getD_eq_getD_getElem?, show fd.offset < vs.size by omega]
        refine ⟨_, ?_, hr _ _ hc, rfl⟩
        simp only [Instr.field, Sem.run_bind, run_underlying hu, Result.andThen_ok, hfd, asAgg, Sem.run_pure, part, aggT_run hag, Bool.false_eq_true, if_false, hv]
       ·cases ha
    ·cases ha
   ·cases ha
  ·cases ha
 ·cases ha

theorem intBin_ok {op : BinOp} {T : TypeId} {k : IntKind} {a b : Int} {d : D} {obs : List Prop} (h1 : op ≠ .shl) (h2 : op ≠ .shr) (h : intBin op k a b = some (d, obs)) (hob : ∀ p ∈ obs, p) :
  ∃ v, (binOp op T (.int k a) (.int k b)).run P w = .ok v w ∧ RepD w (Mset X β) d v := by
 cases op
 case shl => exact absurd rfl h1
 case shr => exact absurd rfl h2
 case quo => cases h; have hb := hob _ (List.mem_singleton.2 rfl); exact ⟨_, by simp only [binOp, ne_eq, not_true, if_false, Op.intDiv, hb]; rfl, .int _ _⟩
 case rem => cases h; have hb := hob _ (List.mem_singleton.2 rfl); exact ⟨_, by simp only [binOp, ne_eq, not_true, if_false, Op.intDiv, hb]; rfl, .int _ _⟩
 all_goals
  cases h
  first
   | exact ⟨_, by simp [binOp, Op.intArith]; rfl, .int _ _⟩
   | exact ⟨_, by simp [binOp, Op.intBits, bitsI]; rfl, .int _ _⟩
   | exact ⟨_, by simp only [binOp, ne_eq, not_true, if_false, Op.intCmp]; rfl, .bool _⟩
theorem toList_mk (s : List UInt8) : (⟨s.toArray⟩ : ByteArray).toList = s := by
 rw [ByteArray.toList_eq]
theorem strBin_ok {op : BinOp} {T : TypeId} {a b : List UInt8} {d : D} {obs : List Prop} (h : strBin op a b = some (d, obs)) (hob : ∀ p ∈ obs, p) :
  ∃ v, (binOp op T (.string ⟨a.toArray⟩) (.string ⟨b.toArray⟩)).run P w = .ok v w ∧ RepD w (Mset X β) d v := by
 cases op
 case add =>
  cases h
  have hb := hob _ (List.mem_singleton.2 rfl)
  refine ⟨.string (⟨a.toArray⟩ ++ ⟨b.toArray⟩), ?_, ?_⟩
  ·simp only [binOp, Op.stringOp]
   rw [if_neg (by simpa [ByteArray.size] using hb)]
   rfl
  ·have e : (⟨a.toArray⟩ ++ ⟨b.toArray⟩ : ByteArray) = ⟨(a ++ b).toArray⟩ := by
    apply ByteArray.ext; simp
   rw [e]; exact .str _
 all_goals first
  | (cases h; done)
  | (cases h; exact ⟨_, by simp only [binOp, Op.stringOp, toList_mk]; rfl, .bool _⟩)
theorem scalEq_ok {M : Nat → Prop} {T : TypeId} {c d : D} {b : Bool} {u v : Value} (n : Nat) (h : scalEq P T c d = some b) (hu : RepD w M c u) (hv : RepD w M d v) :
  (Op.equalIn (n + 1) T u v).run P w = .ok b w := by
 unfold scalEq at h
 split at h
 ·next a b' ht => cases h; obtain rfl := hu.bool_inv; obtain rfl := hv.bool_inv; exact run_equalIn_bool w n T _ _ ht
 ·next k0 k a k' b' ht =>
  split at h
  ·next hk => subst hk; cases h; obtain rfl := hu.int_inv; obtain rfl := hv.int_inv; exact run_equalIn_int w n T _ _ _ _ ht
  ·cases h
 ·next a b' ht =>
  cases h; obtain rfl := hu.str_inv; obtain rfl := hv.str_inv
  rw [run_equalIn_string w n T _ _ ht, toList_mk, toList_mk]
 ·cases h
theorem fieldsEq_ok {M : Nat → Prop} {cs ds : List D} {us vs : Array Value} {fs : List Field} {b : Bool} (n : Nat) (h : fieldsEq P cs ds fs = some b)
  (hu : ∀ j d, cs[j]? = some d → RepD w M d (us.getD j undef)) (hv : ∀ j d, ds[j]? = some d → RepD w M d (vs.getD j undef)) (hul : us.size = cs.length) (hvl : vs.size = ds.length) :
  (Op.eqFields (n + 1) us vs fs).run P w = .ok b w := by
 induction fs generalizing b with
 | nil => cases h; simp [Op.eqFields]
 | cons f r ih =>
  unfold fieldsEq at h
  unfold Op.eqFields
  by_cases hname : f.name = "_"
  ·simp only [hname, ne_eq, not_true, if_false, if_true] at h ⊢
   exact ih h
  ·simp only [hname, ne_eq, not_false_iff, if_true, if_false] at h ⊢
   split at h
   ·next c d hag hc hd =>
    split at h
    ·next b1 b2 h1 h2 =>
     cases h
     have e1 : us[f.offset]? = some (us.getD f.offset undef) := by
      have := (List.getElem?_eq_some_iff.1 hc).1
      simp [Array.getD_eq_getD_getElem?, show f.offset < us.size by omega]
     have e2 : vs[f.offset]? = some (vs.getD f.offset undef) := by
      have := (List.getElem?_eq_some_iff.1 hd).1
      simp [Array.getD_eq_getD_getElem?, show f.offset < vs.size by omega]
     have p1 : (part f.type us f.offset).run P w = .ok (us.getD f.offset undef) w := by
      simp only [part, Sem.run_bind, aggT_run hag, Result.andThen_ok, Bool.false_eq_true, if_false, e1]; rfl
     have p2 : (part f.type vs f.offset).run P w = .ok (vs.getD f.offset undef) w := by
      simp only [part, Sem.run_bind, aggT_run hag, Result.andThen_ok, Bool.false_eq_true, if_false, e2]; rfl
     simp only [Sem.run_bind, p1, p2, Result.andThen_ok, scalEq_ok n h1 (hu _ _ hc) (hv _ _ hd), Sem.run_ite, ih h2]
     cases b1 <;> simp
    ·cases h
   ·cases h
theorem equal_slice_nil {T el : TypeId} (ht : P.underlying T = some (.slice el)) (a : Option Addr) (n c : Nat) : (Op.equal T (.slice a n c) (.slice none 0 0)).run P w = .ok a.isNone w := by
 show (Op.equalIn (9999 + 1) T (.slice a n c) (.slice none 0 0)).run P w = _
 unfold Op.equalIn
 simp only [Sem.run_bind, run_underlying ht, Result.andThen_ok]
 cases a <;> rfl
theorem equal_func_nil {T : TypeId} {ps rs : Array TypeId} {vr : Bool} (ht : P.underlying T = some (.func ps rs vr)) : (Op.equal T .nilFunc .nilFunc).run P w = .ok true w ∧ ∀ f x y, (Op.equal T (.func f x y) .nilFunc).run P w = .ok false w := by
 constructor
 ·show (Op.equalIn (9999 + 1) T _ _).run P w = _
  unfold Op.equalIn
  simp only [Sem.run_bind, run_underlying ht, Result.andThen_ok]
  rfl
 ·intro f x y
  show (Op.equalIn (9999 + 1) T _ _).run P w = _
  unfold Op.equalIn
  simp only [Sem.run_bind, run_underlying ht, Result.andThen_ok]
  rfl
theorem equal_ptr_nil {T el : TypeId} (ht : P.underlying T = some (.pointer el)) (a : Option Addr) : (Op.equal T (.pointer a) (.pointer none)).run P w = .ok a.isNone w := by
 show (Op.equalIn (9999 + 1) T _ _).run P w = _
 unfold Op.equalIn
 simp only [Sem.run_bind, run_underlying ht, Result.andThen_ok]
 cases a <;> rfl
theorem isNil_ok {T : TypeId} {x y : AV} {xo yo : Operand} {op : BinOp} {vx vy : Value} (hO : Objs O β X w) (hl : Looks O look) (hx : AR O β X w x vx) (hy : AR O β X w y vy) (hnil : nilConst P T y = true)
  {b : Bool} {obs : List Prop} (hn : isNil P T x look = some (b, obs)) (hobs : ∀ p ∈ obs, p) :
  (Op.equal T vx vy).run P w = .ok b w ∧ eqGuard op T xo yo vx vy = pure () ∧ binOp .eql T vx vy = (do pure (.bool (← Op.equal T vx vy))) ∧ binOp .neq T vx vy = (do pure (.bool (!(← Op.equal T vx vy)))) := by
 unfold isNil at hn
 unfold nilConst at hnil
 split at hn
 ·next el ht =>
  rw [ht] at hnil
  have hy' : y = .raw (.slice none 0 0) := by
   revert hnil; split <;> simp_all
  subst hy'
  obtain rfl := hy.raw_inv
  have hs : ∀ a n c, vx = .slice a n c → (Op.equal T vx (.slice none 0 0)).run P w = .ok a.isNone w ∧ eqGuard op T xo yo vx (.slice none 0 0) = pure () ∧ binOp .eql T vx (.slice none 0 0) = (do pure (.bool (← Op.equal T vx (.slice none 0 0)))) ∧ binOp .neq T vx (.slice none 0 0) = (do pure (.bool (!(← Op.equal T vx (.slice none 0 0))))) := by
   rintro a n c rfl
   exact ⟨equal_slice_nil ht a n c, by cases op <;> rfl, rfl, rfl⟩
  split at hn
  ·next a n c => cases hn; obtain rfl := hx.raw_inv; exact hs _ _ _ rfl
  ·next es =>
   cases hn
   have hne : es ≠ [] := hobs _ (by simp)
   cases hx.d_inv with
   | nil a c => exact absurd rfl hne
   | sl es a c sz f => exact hs _ _ _ rfl
  ·next o sz =>
   split at hn
   ·next szr es hlk =>
    cases hn
    have hne : es ≠ [] := hobs _ (by simp)
    rcases hO.row (hl.row hlk) with ⟨hes, -⟩ | ⟨b, cur, t, lo, hi, hβ, hb, -, hsz2, hlen, hr⟩
    ·exact absurd hes hne
    ·cases hx with
     | own o sz v hC hone hv =>
      obtain ⟨rfl, a, c, rfl, hnc, hbk⟩ := hv _ _ _ hβ
      obtain ⟨b', cnt, hg, rfl, hle⟩ := hbk (by have := List.length_pos_iff.2 hne; omega)
      exact hs _ _ _ rfl
   ·cases hn
  ·cases hn
 ·next ps rs vr ht =>
  rw [ht] at hnil
  have hy' : y = .raw .nilFunc := by
   revert hnil; split <;> simp_all
  subst hy'
  obtain rfl := hy.raw_inv
  split at hn
  ·cases hn; obtain rfl := hx.raw_inv
   exact ⟨(equal_func_nil ht).1, by cases op <;> rfl, rfl, rfl⟩
  ·cases hn
   cases hx with
   | fn f cs vs hl hh => exact ⟨(equal_func_nil ht).2 _ _ _, by cases op <;> rfl, rfl, rfl⟩
  ·cases hn
 ·next el ht =>
  rw [ht] at hnil
  have hy' : y = .raw (.pointer none) := by
   revert hnil; split <;> simp_all
  subst hy'
  obtain rfl := hy.raw_inv
  split at hn
  ·cases hn; obtain rfl := hx.raw_inv
   exact ⟨equal_ptr_nil ht _, by cases op <;> rfl, rfl, rfl⟩
  ·next o off =>
   split at hn
   ·next cs hlk =>
    cases hn
    obtain ⟨b, cur, t, lo, hi, hβ, hb, -, -, hr⟩ := hO.box (hl.box hlk)
    cases hx with
    | ptr o off v hC hone hv =>
     obtain rfl := hv b hβ
     exact ⟨equal_ptr_nil ht _, by cases op <;> rfl, rfl, rfl⟩
   ·cases hn
  ·cases hn
 ·cases hn
theorem actBin_ok {op : BinOp} {T : TypeId} {x y : AV} {xo yo : Operand} {e : Eff} {vx vy : Value} (hO : Objs O β X w) (hl : Looks O look) (hx : AR O β X w x vx) (hy : AR O β X w y vy)
  (ha : actBin P op T x y look = some e) (hob : ∀ p ∈ e.obs, p) :
  ∃ v, (do eqGuard op T xo yo vx vy; binOp op T vx vy : Sem Value).run P w = .ok v w ∧ AR O β X w e.val v ∧ e.wr = [] := by
 unfold actBin at ha
 split at ha
 ·next k a k' b =>
  obtain rfl := hx.d_inv.int_inv
  obtain rfl := hy.d_inv.int_inv
  rw [eqGuard_at_int]
  split at ha
  ·cases ha
   have hb : 0 ≤ b := hob _ (by simp)
   exact ⟨_, by simp only [pure_bind, binOp, Op.shift, if_neg (show ¬ b < 0 by omega)]; rfl, .d _ _ (.int _ _), rfl⟩
  ·cases ha
   have hb : 0 ≤ b := hob _ (by simp)
   exact ⟨_, by simp only [pure_bind, binOp, Op.shift, if_neg (show ¬ b < 0 by omega)]; rfl, .d _ _ (.int _ _), rfl⟩
  ·next h1 h2 =>
   split at ha
   ·next hk =>
    subst hk
    split at ha
    ·next d obs hd =>
     cases ha
     obtain ⟨v, hv, hr⟩ := intBin_ok (P := P) (w := w) (β := β) (X := X) (T := T) h1 h2 hd hob
     exact ⟨v, by simpa only [pure_bind] using hv, .d _ _ hr, rfl⟩
    ·cases ha
   ·cases ha
 ·next a b =>
  obtain rfl := hx.d_inv.str_inv
  obtain rfl := hy.d_inv.str_inv
  rw [eqGuard_at_string]
  split at ha
  ·next d obs hd =>
   cases ha
   obtain ⟨v, hv, hr⟩ := strBin_ok (P := P) (w := w) (β := β) (X := X) (T := T) hd hob
   exact ⟨v, by simpa only [pure_bind] using hv, .d _ _ hr, rfl⟩
  ·cases ha
 ·next a b =>
  obtain rfl := hx.d_inv.bool_inv
  obtain rfl := hy.d_inv.bool_inv
  rw [eqGuard_at_bool]
  split at ha
  ·next _ ht => cases ha; exact ⟨_, by simp only [pure_bind, binOp, Op.equal, Op.maxDepth, Sem.run_bind, run_equalIn_bool w 9999 T _ _ ht, Result.andThen_ok]; rfl, .d _ _ (.bool _), rfl⟩
  ·next _ ht => cases ha; exact ⟨_, by simp only [pure_bind, binOp, Op.equal, Op.maxDepth, Sem.run_bind, run_equalIn_bool w 9999 T _ _ ht, Result.andThen_ok]; rfl, .d _ _ (.bool _), rfl⟩
  ·cases ha
 ·next cs ds =>
  obtain ⟨us, rfl, hul, -, hu⟩ := agg_inv hx
  obtain ⟨vs, rfl, hvl, -, hv⟩ := agg_inv hy
  split at ha
  ·next _ fs ht =>
   split at ha
   ·next hg =>
    split at ha
    ·next b hb =>
     cases ha
     have hf : P.fieldsOf T = fs := by simp [Program.fieldsOf, ht]
     have hrun : (Op.equalIn (9998 + 1 + 1) T (.agg us) (.agg vs)).run P w = .ok b w := by
      rw [run_equalIn_struct w _ T us vs (by rw [hf]; exact ht) hg.2, hf]
      exact fieldsEq_ok 9998 hb hu hv hul hvl
     exact ⟨_, by simp only [Sem.run_bind, run_eqGuard_agg w _ T _ _ us vs hg.1, Result.andThen_ok, run_eql_struct, hrun], .d _ _ (.bool _), rfl⟩
    ·cases ha
   ·cases ha
  ·next _ fs ht =>
   split at ha
   ·next hg =>
    split at ha
    ·next b hb =>
     cases ha
     have hf : P.fieldsOf T = fs := by simp [Program.fieldsOf, ht]
     have hrun : (Op.equalIn (9998 + 1 + 1) T (.agg us) (.agg vs)).run P w = .ok b w := by
      rw [run_equalIn_struct w _ T us vs (by rw [hf]; exact ht) hg.2, hf]
      exact fieldsEq_ok 9998 hb hu hv hul hvl
     exact ⟨_, by simp only [Sem.run_bind, run_eqGuard_agg w _ T _ _ us vs hg.1, Result.andThen_ok, run_neq_struct, hrun], .d _ _ (.bool _), rfl⟩
    ·cases ha
   ·cases ha
  ·cases ha
 ·next o o' =>
  split at ha
  ·next _ _ _ _ el cs cs' ht h1 h2 =>
   split at ha
   ·next n hn =>
    cases ha
    obtain ⟨b, cur, t, lo, hi, hβ, hb, hS, -, -⟩ := hO.boxS (hl.box h1)
    obtain ⟨b', cur', t', lo', hi', hβ', hb', hS', -, -⟩ := hO.boxS (hl.box h2)
    cases hx with
    | ptr _ _ v hC hone hv =>
    obtain rfl := hv b hβ
    cases hy with
    | ptr _ _ v' hC' hone' hv' =>
    obtain rfl := hv' b' hβ'
    have hz : (sizeOf el).run P w = .ok (n + 1) w := szT_run hn w
    have heq : (Op.equal T (.pointer (some ⟨b, 0, none⟩)) (.pointer (some ⟨b', 0, none⟩))).run P w = .ok (o == o') w := by
     show (Op.equalIn (9999 + 1) T _ _).run P w = _
     unfold Op.equalIn
     simp only [Sem.run_bind, run_underlying ht, Result.andThen_ok, hz]
     by_cases ho : o = o'
     ·subst ho
      rw [hβ] at hβ'
      cases hβ'
      rw [if_pos (by simp), run_sameAddr_same]
      simp
     ·have hbb : b ≠ b' := fun e => ho (hO.inj o o' b (by rw [hβ]; rfl) (by rw [hβ', e]; rfl))
      have f1 : ¬(lo = 0 ∧ 0 < hi) := fun h => hS 0 ⟨by omega, h.2⟩
      have f2 : ¬(lo' = 0 ∧ 0 < hi') := fun h => hS' 0 ⟨by omega, h.2⟩
      have f3 := hS cur.size
      have f4 := hS' cur'.size
      have hne : (o == o') = false := by simpa using ho
      rw [if_pos (by simp), hne]
      simp only [sameAddr]
      simp [hbb, World.frozen?, hb, hb', noView, viewAt, World.shape?, mayBeOne, stringish, f1, f2, f3, f4]
    refine ⟨.bool (o == o'), ?_, .d _ _ (.bool _), rfl⟩
    show (do eqGuard .eql T xo yo _ _; binOp .eql T _ _ : Sem Value).run P w = _
    have hg : eqGuard .eql T xo yo (.pointer (some ⟨b, 0, none⟩)) (.pointer (some ⟨b', 0, none⟩)) = pure () := rfl
    have hb2 : binOp .eql T (.pointer (some ⟨b, 0, none⟩)) (.pointer (some ⟨b', 0, none⟩)) = (do pure (.bool (← Op.equal T (.pointer (some ⟨b, 0, none⟩)) (.pointer (some ⟨b', 0, none⟩))))) := rfl
    rw [hg, hb2]
    simp [heq]
   ·cases ha
  ·cases ha
 ·split at ha
  ·next hnil =>
   split at ha
   ·next b obs hn =>
    cases ha
    obtain ⟨h1, h2, h3, -⟩ := isNil_ok (op := .eql) (xo := xo) (yo := yo) hO hl hx hy hnil hn hob
    refine ⟨.bool b, ?_, .d _ _ (.bool _), rfl⟩
    rw [h2, h3]
    simp [h1]
   ·next b obs hn =>
    cases ha
    obtain ⟨h1, h2, -, h3⟩ := isNil_ok (op := .neq) (xo := xo) (yo := yo) hO hl hx hy hnil hn hob
    refine ⟨.bool (!b), ?_, .d _ _ (.bool _), rfl⟩
    rw [h2, h3]
    simp [h1]
   ·cases ha
  ·cases ha
end
end Sx
end Go.Proofs.YtalpfhpeaaocmaaGreat
end
section
namespace Go.Proofs.YtalpfhpeaaocmaaGreat
namespace Sx
open Go.RowKit
section
variable {P : Program} {O : Nat → Ob} {β : Nat → HE} {X : Nat → Prop} {w : World} {look : Nat → Ob}
theorem actUn_ok {op : UnOp} {x : AV} {e : Eff} {vx : Value} (hx : AR O β X w x vx) (ha : actUn op x = some e) :
  ∃ v, (Op.unary op vx).run P w = .ok v w ∧ AR O β X w e.val v ∧ e.wr = [] := by
 unfold actUn at ha
 split at ha
 ·cases ha; obtain rfl := hx.d_inv.int_inv; exact ⟨_, by simp only [Op.unary, Op.intArith]; rfl, .d _ _ (.int _ _), rfl⟩
 ·cases ha; obtain rfl := hx.d_inv.int_inv; exact ⟨_, by simp only [Op.unary, Op.intBits]; rfl, .d _ _ (.int _ _), rfl⟩
 ·cases ha; obtain rfl := hx.d_inv.bool_inv; exact ⟨_, by simp only [Op.unary]; rfl, .d _ _ (.bool _), rfl⟩
 ·cases ha
/-- The elements that a slice value has, in memory: from `ad` on, `sz` cells each. -/
structure Elems (O : Nat → Ob) (β : Nat → HE) (X : Nat → Prop) (w : World) (sz : Nat) (es : List D) (a : Option Addr) : Prop where
 ok : ∀ e ∈ es, e.cells.length = sz ∧ ∀ d ∈ e.cells, d.one = true
 at_ : es ≠ [] → ∃ (ad : Addr) (f : Nat → Nat → Value), a = some ad ∧ ad.block < w.heap.size ∧ (∀ i j, i < es.length → j < sz → w.cell? (ad.add (i * sz + j)) = some (f i j)) ∧
  ∀ i j e d, es[i]? = some e → e.cells[j]? = some d → RepD w (Mset X β) d (f i j)
theorem row_cells {sz : Nat} {es : List D} {b : Nat} {cur : Array Value} {t lo hi : Nat} (hb : w.heap[b]? = some (.cells cur t (lo, hi))) (hl : es.length * sz ≤ cur.size) {i j : Nat} (hi' : i < es.length) (hj : j < sz) :
  w.cell? ((Addr.mk b 0 none).add (i * sz + j)) = some (cur.getD (i * sz + j) undef) := by
 rw [add_mk, Nat.zero_add]
 refine cellIn hb ?_
 have : (i + 1) * sz ≤ es.length * sz := Nat.mul_le_mul_right _ hi'
 rw [Nat.succ_mul] at this
 omega
theorem rowOf_ok {x : AV} {es : List D} {vx : Value} (hO : Objs O β X w) (hl : Looks O look) (hx : AR O β X w x vx) (h : rowOf x look = some es) :
  ∃ a c sz, vx = .slice a es.length c ∧ Elems O β X w sz es a ∧ es.length ≤ c ∧ (∀ ad, a = some ad → es ≠ [] → ¬ Mset X β ad.block ∨ Tset β ad.block) := by
 unfold rowOf at h
 split at h
 ·next es' =>
  cases h
  cases hx.d_inv with
  | nil a c => exact ⟨a, c, 0, rfl, ⟨by simp, by simp⟩, Nat.zero_le _, fun _ _ h => absurd rfl h⟩
  | sl es a c sz f hn hb hM hsz hc hr => exact ⟨some a, c, sz, rfl, ⟨hsz, fun _ => ⟨a, f, rfl, hb, hc, hr⟩⟩, hn, fun ad had _ => by cases had; exact .inl hM⟩
 ·next o sz =>
  split at h
  ·next szr es' hlk =>
   cases h
   cases hx with
   | own o sz v hC hone hv =>
    rcases hO.row (hl.row hlk) with ⟨hes, hβ⟩ | ⟨b, cur, t, lo, hi, hβ, hb, -, hsz2, hlen, hr⟩
    ·subst hes
     obtain ⟨-, a, c, rfl, -, -⟩ := hv _ _ _ hβ
     exact ⟨a, c, 0, rfl, ⟨by simp, by simp⟩, Nat.zero_le _, fun _ _ h => absurd rfl h⟩
    ·obtain ⟨rfl, a, c, rfl, hnc, hbk⟩ := hv _ _ _ hβ
     refine ⟨a, c, szr, rfl, ⟨hsz2, fun hne => ?_⟩, hnc, fun ad had hne => ?_⟩
     ·obtain ⟨b', cnt, hg, rfl, hle⟩ := hbk (by have := List.length_pos_iff.2 hne; omega)
      cases hg
      refine ⟨_, fun i j => cur.getD (i * szr + j) undef, rfl, (Array.getElem?_eq_some_iff.1 hb).1, fun i j hi' hj => ?_, hr⟩
      simpa using row_cells hb hlen hi' hj
     ·obtain ⟨b', cnt, hg, rfl, hle⟩ := hbk (by have := List.length_pos_iff.2 hne; omega)
      cases hg
      cases had
      exact .inr ⟨o, by rw [hβ]; rfl⟩
  ·cases h
 ·next o sz lo n =>
  split at h
  ·next szr es' hlk =>
   cases h
   cases hx with
   | sub o sz lo n v hC hone hv =>
    rcases hO.row (hl.row hlk) with ⟨hes, hβ⟩ | ⟨b, cur, t, lo', hi, hβ, hb, -, hsz2, hlen, hr⟩
    ·subst hes
     obtain ⟨-, hle, a, c, rfl, -, -⟩ := hv _ _ _ hβ
     have : n = 0 := by omega
     subst this
     exact ⟨a, c, 0, by simp, ⟨by simp, by simp⟩, by simp, fun _ _ h => absurd (by simp) h⟩
    ·obtain ⟨rfl, hle, a, c, rfl, hnc, hbk⟩ := hv _ _ _ hβ
     have hlen2 : ((es'.drop lo).take n).length = n := by simp; omega
     refine ⟨a, c, szr, by rw [hlen2], ⟨fun e he => hsz2 e (List.mem_of_mem_drop (List.mem_of_mem_take he)), fun hne => ?_⟩, by rw [hlen2]; exact hnc, fun ad had hne => by
      have hn0 : 0 < n := by rw [← hlen2]; exact List.length_pos_iff.2 hne
      obtain ⟨b', cnt, hg, rfl, hle2⟩ := hbk (by omega)
      cases hg
      cases had
      exact .inr ⟨o, by rw [hβ]; rfl⟩⟩
     have hn0 : 0 < n := by rw [← hlen2]; exact List.length_pos_iff.2 hne
     obtain ⟨b', cnt, hg, rfl, hle2⟩ := hbk (by omega)
     cases hg
     refine ⟨_, fun i j => cur.getD ((lo + i) * szr + j) undef, rfl, (Array.getElem?_eq_some_iff.1 hb).1, fun i j hi' hj => ?_, fun i j e d h1 h2 => ?_⟩
     ·rw [hlen2] at hi'
      have := row_cells (w := w) hb hlen (i := lo + i) (j := j) (by omega) hj
      rw [add_mk, Nat.zero_add] at this
      rw [add_mk, ← Nat.add_assoc, ← Nat.add_mul]
      exact this
     ·refine hr (lo + i) j e d ?_ h2
      have hin : i < n := by
       have := (List.getElem?_eq_some_iff.1 h1).1
       rw [hlen2] at this; exact this
      rw [List.getElem?_take_of_lt hin, List.getElem?_drop] at h1
      exact h1
  ·cases h
 ·next a c =>
  cases h
  obtain rfl := hx.raw_inv
  exact ⟨a, c, 0, rfl, ⟨by simp, by simp⟩, Nat.zero_le _, fun _ _ h => absurd rfl h⟩
 ·cases h
theorem byteD_cells (c : UInt8) : (byteD c).cells = [byteD c] := rfl
/-- The bytes of a slice as cells. -/
theorem bytes_cells {s : List UInt8} {a : Option Addr} {sz : Nat} (h : Elems O β X w sz (s.map byteD) a) (hs : s ≠ []) :
  ∃ ad : Addr, a = some ad ∧ ∀ j, j < s.length → w.cell? (ad.add j) = some (.int .u8 (s.getD j 0).toNat) := by
 obtain ⟨ad, f, rfl, -, hc, hr⟩ := h.at_ (by simpa using hs)
 have hsz : sz = 1 := by
  obtain ⟨c, r, rfl⟩ := List.exists_cons_of_ne_nil hs
  exact (h.ok (byteD c) (by simp)).1.symm
 subst hsz
 refine ⟨ad, rfl, fun j hj => ?_⟩
 have h1 := hc j 0 (by simpa using hj) (by omega)
 simp only [Nat.mul_one, Nat.add_zero] at h1
 have h2 := hr j 0 (byteD s[j]) (byteD s[j]) (by simp [hj]) (by rw [byteD_cells]; rfl)
 rw [h1, h2.int_inv]
 simp [List.getD_eq_getElem?_getD, hj]
theorem pushAll (s : List UInt8) (acc : ByteArray) : ((s.map fun c => (c.toNat : Int)).foldl (fun r n => r.push (UInt8.ofNat n.toNat)) acc) = acc ++ ⟨s.toArray⟩ := by
 induction s generalizing acc with
 | nil => apply ByteArray.ext; simp
 | cons c r ih =>
  rw [List.map_cons, List.foldl_cons, ih]
  apply ByteArray.ext
  simp [ByteArray.push]
theorem bytesToString_ok {s : List UInt8} {a : Option Addr} {c : Nat} {sz : Nat} (h : Elems O β X w sz (s.map byteD) a) : (Conv.bytesToString (.slice a s.length c)).run P w = .ok (.string ⟨s.toArray⟩) w := by
 by_cases hs : s = []
 ·subst hs
  cases a with
  | none => rfl
  | some ad => simp [Conv.bytesToString, loadCells, loadCellsFrom]; rfl
 ·obtain ⟨ad, rfl, hc⟩ := bytes_cells h hs
  rw [run_bytesToString w ad s.length c (s.map fun c => (c.toNat : Int))]
  ·rw [pushAll]
   congr 2
  ·have := run_loadCells (P := P) w ad s.length (fun j => .int .u8 (s.getD j 0).toNat) hc
   rw [this]
   congr 1
   apply Array.ext'
   simp only [List.map_map]
   apply List.ext_getElem
   ·simp
   ·intro i h1 h2
    simp at h1
    simp [List.getD_eq_getElem?_getD, h1]
theorem actConvert_ok {dst : Nat} {S T : TypeId} {x : AV} {h : OH} {e : Eff} {vx : Value} (hO : Objs O β X w) (hl : Looks O look) (hx : AR O β X w x vx) (ha : actConvert P dst S T x h look = some e) (hob : ∀ p ∈ e.obs, p)
  (hns : ∀ el, ¬ (P.underlying S = some .string ∧ P.underlying T = some (.slice el))) (hnm : ∀ el el', ¬ (P.underlying S = some (.slice el) ∧ P.underlying T = some (.slice el'))) :
  ∃ v, (convert S T vx).run P w = .ok v w ∧ AR O β X w e.val v ∧ e.wr = [] := by
 unfold actConvert at ha
 split at ha
 ·next k0 k hs ht =>
  split at ha
  ·cases ha
   obtain rfl := hx.d_inv.int_inv
   exact ⟨_, by simp only [convert, Sem.run_bind, run_underlying hs, run_underlying ht, Result.andThen_ok, Conv.intToInt]; rfl, .d _ _ (.int _ _), rfl⟩
  ·cases ha
 ·next hs ht =>
  split at ha
  ·cases ha
   obtain rfl := hx.d_inv.str_inv
   exact ⟨_, by simp only [convert, Sem.run_bind, run_underlying hs, run_underlying ht, Result.andThen_ok]; rfl, .d _ _ (.str _), rfl⟩
  ·cases ha
 ·next el hs ht => exact absurd ⟨hs, ht⟩ (hns el)
 ·next el hs ht =>
  split at ha
  ·next es s hu hes =>
   cases ha
   have he : es = s.map byteD := hob _ (by simp)
   subst he
   obtain ⟨a, c, sz, rfl, hE, -⟩ := rowOf_ok hO hl hx hes
   refine ⟨_, ?_, .d _ _ (.str s), rfl⟩
   have := bytesToString_ok (P := P) (c := c) hE
   simp only [convert, Sem.run_bind, run_underlying hs, run_underlying ht, run_underlying hu, Result.andThen_ok, List.length_map]
   exact this
  ·cases ha
 ·next el el' hs ht => exact absurd ⟨hs, ht⟩ (hnm el el')
 ·cases ha
/-- An operand that may lack. -/
def OptR (O : Nat → Ob) (β : Nat → HE) (X : Nat → Prop) (w : World) : Option AV → Option Value → Prop
 | none, none => True
 | some x, some v => AR O β X w x v
 | _, _ => False
theorem bound_ok {x : Option AV} {v : Option Value} {dflt i : Int} (h : bound x dflt = some i) (hx : OptR O β X w x v) : (v = none ∧ i = dflt) ∨ ∃ k, v = some (.int k i) := by
 unfold bound at h
 split at h
 ·cases h
  cases v with
  | none => exact .inl ⟨rfl, rfl⟩
  | some v => exact hx.elim
 ·cases h
  cases v with
  | none => exact hx.elim
  | some v => obtain rfl := RepD.int_inv (RAV.d_inv hx); exact .inr ⟨_, rfl⟩
 ·cases h
theorem sliceBounds_in {lo hi : Option AV} {vlo vhi : Option Value} {isS : Bool} {len cap : Nat} {l h : Int} (hlo : bound lo 0 = some l) (hhi : bound hi len = some h)
  (xlo : OptR O β X w lo vlo) (xhi : OptR O β X w hi vhi) (h0 : 0 ≤ l) (h1 : l ≤ h) (h2 : h ≤ cap) :
  (Instr.sliceBounds isS len cap vlo vhi none).run P w = .ok (l.toNat, h.toNat, cap) w := by
 have hb : ∀ (v : Value) (y : Nat) (code : BoundsCode) (k : IntKind) (i : Int), v = .int k i → 0 ≤ i → i ≤ y → (Instr.sliceBound v y code).run P w = .ok i.toNat w := by
  rintro v y code k i rfl g0 g1
  simp [Instr.sliceBound, asIntOf, g0, g1]
 rcases bound_ok hhi xhi with ⟨rfl, rfl⟩ | ⟨k, rfl⟩
 ·rcases bound_ok hlo xlo with ⟨rfl, rfl⟩ | ⟨k, rfl⟩
  ·simp [Instr.sliceBounds]
  ·have := hb _ len (if (none : Option Value).isSome = true then .slice3C else .sliceB) k l rfl h0 h1
   simp only [Option.isSome_none, Bool.false_eq_true, if_false] at this
   simp [Instr.sliceBounds, this]
 ·have e1 := hb _ cap (if isS = true then .sliceAcap else .sliceAlen) k h rfl (by omega) (by omega)
  rcases bound_ok hlo xlo with ⟨rfl, rfl⟩ | ⟨k, rfl⟩
  ·simp [Instr.sliceBounds, e1]
  ·have := hb _ h.toNat .sliceB k l rfl h0 (by omega)
   simp [Instr.sliceBounds, e1, this]
theorem sliceBounds_ok {lo hi : Option AV} {vlo vhi : Option Value} {isS : Bool} {len cap : Nat} {l h : Int} (hlo : bound lo 0 = some l) (hhi : bound hi len = some h)
  (xlo : OptR O β X w lo vlo) (xhi : OptR O β X w hi vhi) (h0 : 0 ≤ l) (h1 : l ≤ h) (h2 : h ≤ len) (hc : len ≤ cap) :
  (Instr.sliceBounds isS len cap vlo vhi none).run P w = .ok (l.toNat, h.toNat, cap) w :=
 sliceBounds_in hlo hhi xlo xhi h0 h1 (by omega)
theorem sliceBounds_three {lo : Option AV} {ah am : AV} {vlo : Option Value} {vh vm : Value} {len cap : Nat} {l h m : Int} (hlo : bound lo 0 = some l) (hhi : bound (some ah) 0 = some h) (hmx : bound (some am) 0 = some m)
  (xlo : OptR O β X w lo vlo) (xhi : OptR O β X w (some ah) (some vh)) (xmx : OptR O β X w (some am) (some vm)) (h0 : 0 ≤ l) (h1 : l ≤ h) (h2 : h ≤ m) (hc : m ≤ cap) :
  (Instr.sliceBounds true len cap vlo (some vh) (some vm)).run P w = .ok (l.toNat, h.toNat, m.toNat) w := by
 have hb : ∀ (v : Value) (y : Nat) (code : BoundsCode) (k : IntKind) (i : Int), v = .int k i → 0 ≤ i → i ≤ y → (Instr.sliceBound v y code).run P w = .ok i.toNat w := by
  rintro v y code k i rfl g0 g1
  simp [Instr.sliceBound, asIntOf, g0, g1]
 rcases bound_ok hhi xhi with ⟨h3, -⟩ | ⟨k, e⟩
 ·cases h3
 ·cases e
  rcases bound_ok hmx xmx with ⟨h3, -⟩ | ⟨k2, e⟩
  ·cases h3
  ·cases e
   have e1 := hb _ cap .slice3Acap k2 m rfl (by omega) (by omega)
   have e2 := hb _ m.toNat .slice3B k h rfl (by omega) (by omega)
   rcases bound_ok hlo xlo with ⟨rfl, rfl⟩ | ⟨k3, rfl⟩
   ·simp [Instr.sliceBounds, e1, e2]
   ·have := hb _ h.toNat .slice3C k3 l rfl h0 (by omega)
    simp [Instr.sliceBounds, e1, e2, this]
theorem slice_own {sz l n c : Nat} {g : Option (Nat × Nat)} {lo : Nat} {a : Option Addr} (hbk : 0 < c → ∃ b cnt, g = some (b, cnt) ∧ a = some ⟨b, lo * sz, none⟩ ∧ (lo + c) * sz ≤ cnt) (hle : l + n ≤ c) :
  OwnV g sz (lo + l) n (.slice (if c = l then a else a.map (·.add (l * sz))) n (c - l)) := by
 have h1 : n ≤ c - l := by omega
 have h2 : lo + l + (c - l) = lo + c := by omega
 refine ⟨_, _, rfl, h1, fun hpos => ?_⟩
 have h3 : ¬ c = l := by omega
 have h4 : 0 < c := by omega
 obtain ⟨b, cnt, hg, rfl, hfit⟩ := hbk h4
 refine ⟨b, cnt, hg, ?_, by rw [h2]; exact hfit⟩
 rw [if_neg h3]
 simp [add_mk, Nat.add_mul]
theorem actSlice_ok {T : TypeId} {x : AV} {lo hi mx : Option AV} {vlo vhi vmx : Option Value} {e : Eff} {vx : Value} (hO : Objs O β X w) (hl : Looks O look) (hx : AR O β X w x vx)
  (xlo : OptR O β X w lo vlo) (xhi : OptR O β X w hi vhi) (xmx : OptR O β X w mx vmx) (ha : actSlice P T x lo hi mx look = some e) (hob : ∀ p ∈ e.obs, p) :
  ∃ v, (Instr.sliceAt T vx vlo vhi vmx).run P w = .ok v w ∧ AR O β X w e.val v ∧ e.wr = [] := by
 unfold actSlice at ha
 split at ha
 ·next m =>
  cases vmx with
  | none => exact xmx.elim
  | some vm =>
  split at ha
  ·next elem es hu =>
   split at ha
   ·next ah =>
    split at ha
    case h_2 => cases ha
    next sz l h k hsz hlo hhi hmx =>
    cases ha
    have hb : 0 ≤ l ∧ l ≤ h ∧ h ≤ k ∧ k ≤ es.length := hob _ (by simp)
    have hcs : ∀ e ∈ es, e.cells.length = sz := hob _ (by simp)
    have hlen : ((es.take h.toNat).drop l.toNat).length = h.toNat - l.toNat := by simp; omega
    cases vhi with
    | none => exact xhi.elim
    | some vh =>
    cases hx.d_inv with
    | nil a c =>
     simp at hb
     have := sliceBounds_three (P := P) (len := 0) (cap := c) hlo hhi hmx xlo xhi xmx hb.1 hb.2.1 hb.2.2.1 (by omega)
     have hl0 : l = 0 := by omega
     have hh0 : h = 0 := by omega
     subst hl0 hh0
     refine ⟨_, by simp only [Instr.sliceAt, Sem.run_bind, run_underlying hu, Result.andThen_ok, Instr.slice, this, szT_run hsz]; rfl, .d _ _ ?_, rfl⟩
     simp
     exact .nil _ _
    | sl es a c sz' f hn hbk hM hsz' hc hr =>
     have := sliceBounds_three (P := P) (len := es.length) (cap := c) hlo hhi hmx xlo xhi xmx hb.1 hb.2.1 hb.2.2.1 (by omega)
     refine ⟨_, by simp only [Instr.sliceAt, Sem.run_bind, run_underlying hu, Result.andThen_ok, Instr.slice, this, szT_run hsz]; rfl, .d _ _ ?_, rfl⟩
     by_cases hlh : l.toNat = h.toNat
     ·have he : (es.take h.toNat).drop l.toNat = [] := List.eq_nil_of_length_eq_zero (by rw [hlen]; omega)
      rw [he, hlh, Nat.sub_self]
      exact .nil _ _
     ·have hss : sz' = sz := by
       have hne : es ≠ [] := by rintro rfl; simp at hb; omega
       obtain ⟨e0, r, rfl⟩ := List.exists_cons_of_ne_nil hne
       rw [← hcs e0 (by simp), (hsz' e0 (by simp)).1]
      subst hss
      rw [if_neg (by omega), ← hlen]
      refine .sl _ _ _ sz' (fun i j => f (l.toNat + i) j) (by rw [hlen]; omega) (by rw [block_add]; exact hbk) (by rw [block_add]; exact hM)
       (fun e he => hsz' e (List.mem_of_mem_take (List.mem_of_mem_drop he))) (fun i j hi' hj => ?_) (fun i j e d h1 h2 => ?_)
      ·rw [hlen] at hi'
       rw [add_add, ← Nat.add_assoc, ← Nat.add_mul]
       exact hc (l.toNat + i) j (by omega) hj
      ·refine hr (l.toNat + i) j e d ?_ h2
       rw [List.getElem?_drop] at h1
       have hlt := (List.getElem?_eq_some_iff.1 h1).1
       rw [List.length_take] at hlt
       rwa [List.getElem?_take_of_lt (by omega)] at h1
   ·cases ha
  ·next elem o sz hu =>
   split at ha
   ·next szr es sz' hlk hsz =>
    split at ha
    ·next ah =>
     split at ha
     case h_2 => cases ha
     next l h k hlo hhi hmx =>
     cases ha
     have hb : 0 ≤ l ∧ l ≤ h ∧ h ≤ k ∧ k ≤ es.length := hob _ (by simp)
     cases vhi with
     | none => exact xhi.elim
     | some vh =>
     have hβe : ∃ g, β o = .row szr es.length g := by
      rcases hO.row (hl.row hlk) with ⟨rfl, hβ⟩ | ⟨b, cur, t, lo, hi, hβ, -⟩
      ·exact ⟨_, hβ⟩
      ·exact ⟨_, hβ⟩
     obtain ⟨g, hβ⟩ := hβe
     cases hx with
     | own o sz v hC hone hv =>
      obtain ⟨rfl, a, c, rfl, hnc, hbk⟩ := hv _ _ _ hβ
      have := sliceBounds_three (P := P) (len := es.length) (cap := c) hlo hhi hmx xlo xhi xmx hb.1 hb.2.1 hb.2.2.1 (by omega)
      exact ⟨_, by simp only [Instr.sliceAt, Sem.run_bind, run_underlying hu, Result.andThen_ok, Instr.slice, this, szT_run hsz]; rfl, .dead _, rfl⟩
    ·cases ha
   ·cases ha
  ·cases ha
 ·cases vmx with
  | some v => exact xmx.elim
  | none =>
  split at ha
  ·next s hu =>
   split at ha
   ·next l h hlo hhi =>
    cases ha
    have hb : 0 ≤ l ∧ l ≤ h ∧ h ≤ s.length := hob _ (by simp)
    obtain rfl := hx.d_inv.str_inv
    have hsz : (⟨s.toArray⟩ : ByteArray).size = s.length := by simp [ByteArray.size]
    have := sliceBounds_ok (P := P) (isS := false) (cap := s.length) hlo hhi xlo xhi hb.1 hb.2.1 hb.2.2 (Nat.le_refl _)
    refine ⟨.string ((⟨s.toArray⟩ : ByteArray).extract l.toNat h.toNat), ?_, ?_, rfl⟩
    ·simp [Instr.sliceAt, run_underlying hu, Instr.slice, hsz, this]
    ·have e : (⟨s.toArray⟩ : ByteArray).extract l.toNat h.toNat = ⟨((s.take h.toNat).drop l.toNat).toArray⟩ := by
      apply ByteArray.ext
      simp only [ByteArray.data_extract]
      apply Array.ext'
      simp [List.extract, List.drop_take]
     rw [e]
     exact .d _ _ (.str _)
   ·cases ha
  ·next elem es hu =>
   split at ha
   ·next sz l h hsz hlo hhi =>
    cases ha
    have hb : 0 ≤ l ∧ l ≤ h ∧ h ≤ es.length := hob _ (by simp)
    have hcs : ∀ e ∈ es, e.cells.length = sz := hob _ (by simp)
    have hlen : ((es.take h.toNat).drop l.toNat).length = h.toNat - l.toNat := by simp; omega
    cases hx.d_inv with
    | nil a c =>
     simp at hb
     have hl0 : l = 0 := by omega
     have hh0 : h = 0 := by omega
     subst hl0 hh0
     have := sliceBounds_ok (P := P) (isS := true) (cap := c) hlo hhi xlo xhi (by omega) (by omega) (by simp) (Nat.zero_le c)
     simp only [List.length_nil] at this
     refine ⟨_, by simp only [Instr.sliceAt, Sem.run_bind, run_underlying hu, Result.andThen_ok, Instr.slice, this, szT_run hsz]; rfl, .d _ _ ?_, rfl⟩
     simp
     exact .nil _ _
    | sl es a c sz' f hn hbk hM hsz' hc hr =>
     have := sliceBounds_ok (P := P) (isS := true) (cap := c) hlo hhi xlo xhi hb.1 hb.2.1 hb.2.2 hn
     refine ⟨_, by simp only [Instr.sliceAt, Sem.run_bind, run_underlying hu, Result.andThen_ok, Instr.slice, this, szT_run hsz]; rfl, .d _ _ ?_, rfl⟩
     by_cases hlh : l.toNat = h.toNat
     ·have he : (es.take h.toNat).drop l.toNat = [] := List.eq_nil_of_length_eq_zero (by rw [hlen]; omega)
      rw [he, hlh, Nat.sub_self]
      exact .nil _ _
     ·have hss : sz' = sz := by
       have hne : es ≠ [] := by rintro rfl; simp at hb; omega
       obtain ⟨e0, r, rfl⟩ := List.exists_cons_of_ne_nil hne
       rw [← hcs e0 (by simp), (hsz' e0 (by simp)).1]
      subst hss
      rw [if_neg (by omega), ← hlen]
      refine .sl _ _ _ sz' (fun i j => f (l.toNat + i) j) (by rw [hlen]; omega) (by rw [block_add]; exact hbk) (by rw [block_add]; exact hM)
       (fun e he => hsz' e (List.mem_of_mem_take (List.mem_of_mem_drop he))) (fun i j hi' hj => ?_) (fun i j e d h1 h2 => ?_)
      ·rw [hlen] at hi'
       rw [add_add, ← Nat.add_assoc, ← Nat.add_mul]
       exact hc (l.toNat + i) j (by omega) hj
      ·refine hr (l.toNat + i) j e d ?_ h2
       rw [List.getElem?_drop] at h1
       have hlt := (List.getElem?_eq_some_iff.1 h1).1
       rw [List.length_take] at hlt
       rwa [List.getElem?_take_of_lt (by omega)] at h1
   ·cases ha
  ·next elem o sz hu =>
   split at ha
   ·next szr es sz' hlk hsz =>
    split at ha
    ·next l h hlo hhi =>
     split at ha
     ·next hss =>
      subst hss
      cases ha
      have hb : 0 ≤ l ∧ l ≤ h ∧ h ≤ es.length := hob _ (by simp)
      have hβe : ∃ g, β o = .row szr es.length g := by
       rcases hO.row (hl.row hlk) with ⟨rfl, hβ⟩ | ⟨b, cur, t, lo, hi, hβ, -⟩
       ·exact ⟨_, hβ⟩
       ·exact ⟨_, hβ⟩
      obtain ⟨g, hβ⟩ := hβe
      cases hx with
      | own o sz v hC hone hv =>
       obtain ⟨rfl, a, c, rfl, hnc, hbk⟩ := hv _ _ _ hβ
       have := sliceBounds_ok (P := P) (isS := true) (cap := c) hlo hhi xlo xhi hb.1 hb.2.1 hb.2.2 hnc
       refine ⟨_, by simp only [Instr.sliceAt, Sem.run_bind, run_underlying hu, Result.andThen_ok, Instr.slice, this, szT_run hsz]; rfl, .sub _ _ _ _ _ hC rfl fun sz2 len g2 hb2 => ?_, rfl⟩
       rw [hβ] at hb2
       cases hb2
       refine ⟨rfl, ⟨by omega, fun a2 n2 c2 he => by cases he; omega⟩, ?_⟩
       have h3 := slice_own (l := l.toNat) (n := (h - l).toNat) hbk (by omega)
       rw [show h.toNat - l.toNat = (h - l).toNat by omega]
       simpa using h3
     ·cases ha
    ·cases ha
   ·cases ha
  ·next elem o sz l0 n hu =>
   split at ha
   ·next szr es sz' hlk hsz =>
    split at ha
    ·next l h hlo hhi =>
     split at ha
     ·next hss =>
      subst hss
      cases ha
      have hb : 0 ≤ l ∧ l ≤ h ∧ (h ≤ n ∨ l0 + h ≤ es.length) := hob _ (by simp)
      have hβe : ∃ g, β o = .row szr es.length g := by
       rcases hO.row (hl.row hlk) with ⟨rfl, hβ⟩ | ⟨b, cur, t, lo, hi, hβ, -⟩
       ·exact ⟨_, hβ⟩
       ·exact ⟨_, hβ⟩
      obtain ⟨g, hβ⟩ := hβe
      cases hx with
      | sub o sz l0 n v hC hone hv =>
       obtain ⟨rfl, hln, a, c, rfl, hnc, hbk⟩ := hv _ _ _ hβ
       have hcap := hln.2 _ _ _ rfl
       have hln1 := hln.1
       have f1 : h ≤ c := by clear hbk hln; omega
       have f2 : l0 + l.toNat + (h - l).toNat ≤ es.length := by clear hbk hln; omega
       have f3 : es.length ≤ l0 + l.toNat + (c - l.toNat) := by clear hbk hln; omega
       have f4 : l.toNat + (h - l).toNat ≤ c := by clear hbk hln; omega
       have := sliceBounds_in (P := P) (isS := true) (cap := c) hlo hhi xlo xhi hb.1 hb.2.1 f1
       refine ⟨_, by simp only [Instr.sliceAt, Sem.run_bind, run_underlying hu, Result.andThen_ok, Instr.slice, this, szT_run hsz]; rfl, .sub _ _ _ _ _ hC rfl fun sz2 len g2 hb2 => ?_, rfl⟩
       rw [hβ] at hb2
       cases hb2
       refine ⟨rfl, ⟨f2, fun a2 n2 c2 he => by cases he; exact f3⟩, ?_⟩
       have h3 := slice_own (l := l.toNat) (n := (h - l).toNat) hbk f4
       rw [show h.toNat - l.toNat = (h - l).toNat by clear hbk hln; omega]
       exact h3
     ·cases ha
    ·cases ha
   ·cases ha
  ·next elem hu =>
   split at ha
   ·next sz l h hsz hlo hhi =>
    cases ha
    have hl0 : l = 0 := hob _ (by simp)
    have hh0 : h = 0 := hob _ (by simp)
    subst hl0 hh0
    obtain rfl := hx.raw_inv
    have := sliceBounds_ok (P := P) (isS := true) (len := 0) (cap := 0) hlo (by simpa using hhi) xlo xhi (by omega) (by omega) (by simp) (Nat.le_refl _)
    exact ⟨_, by simp only [Instr.sliceAt, Sem.run_bind, run_underlying hu, Result.andThen_ok, Instr.slice, this, szT_run hsz]; rfl, .raw _, rfl⟩
   ·cases ha
  ·next n elem o sz i off hu =>
   split at ha
   ·next szr es sz' hlk hsz =>
    split at ha
    ·next l h hlo hhi =>
     split at ha
     ·next hss =>
      subst hss
      cases ha
      have e1 : i = 0 := hob _ (by simp)
      have e2 : off = 0 := hob _ (by simp)
      have e3 : es.length = n := hob _ (by simp)
      have e4 : 0 < n := hob _ (by simp)
      have hb : 0 ≤ l ∧ l ≤ h ∧ h ≤ n := hob _ (by simp)
      subst e1 e2 e3
      rcases hO.row (hl.row hlk) with ⟨rfl, hβ⟩ | ⟨b, cur, t, lo', hi', hβ, hbl, -, hsz2, hlen, hr⟩
      ·simp at e4
      ·cases hx with
       | rptr o sz i off v hC hone hv =>
        obtain ⟨rfl, rfl⟩ := hv _ _ _ _ hβ
        have := sliceBounds_ok (P := P) (isS := false) (cap := es.length) hlo hhi xlo xhi hb.1 hb.2.1 hb.2.2 (Nat.le_refl _)
        refine ⟨_, by simp only [Instr.sliceAt, Sem.run_bind, run_underlying hu, Result.andThen_ok, Instr.sureAddr, Sem.run_pure, this, szT_run hsz]; rfl, .sub _ _ _ _ _ hC rfl fun sz2 len g2 hb2 => ?_, rfl⟩
        rw [hβ] at hb2
        cases hb2
        refine ⟨rfl, ⟨by omega, fun a2 n2 c2 he => by cases he; omega⟩, ?_⟩
        have h3 := slice_own (sz := szr) (g := some (b, cur.size)) (lo := 0) (c := es.length) (a := some ⟨b, 0, none⟩) (l := l.toNat) (n := (h - l).toNat) (fun _ => ⟨b, _, rfl, by simp, by simpa using hlen⟩) (by omega)
        rw [show h.toNat - l.toNat = (h - l).toNat by omega]
        have e5 : (0 * szr + 0) = 0 := by simp
        rw [e5]
        simp only [Nat.zero_add] at h3
        have e6 : (some (if es.length = l.toNat then (Addr.mk b 0 none) else (Addr.mk b 0 none).add (l.toNat * szr))) = (if es.length = l.toNat then some (Addr.mk b 0 none) else Option.map (fun x => x.add (l.toNat * szr)) (some (Addr.mk b 0 none))) := by split <;> rfl
        rw [e6]
        exact h3
     ·cases ha
    ·cases ha
   ·cases ha
  ·cases ha
theorem lenOf_ok {T : TypeId} {ty : TypeId} {ts : Array TypeId} {args : Array Value} {x : AV} {n : Nat} {vx : Value} (hO : Objs O β X w) (hl : Looks O look) (hx : AR O β X w x vx) (h : lenOf P T x look = some n)
  (ht : ts[0]? = some T) (ha : args[0]? = some vx) : (Builtin.len_ ts ty args).run P w = .ok (.int .i64 n) w := by
 unfold lenOf at h
 unfold Builtin.len_
 rw [ht, ha]
 split at h
 ·next hu =>
  split at h
  ·next s =>
   cases h; obtain rfl := hx.d_inv.str_inv
   simp only [Sem.run_bind, run_underlying hu, Result.andThen_ok]
   rfl
  ·cases h
 ·next el hu =>
  have hs : ∀ a m c, vx = .slice a m c → m = n → (do
    match ← underlying T, vx with
    | .string, .string s => pure (goInt s.size)
    | .array n _, _ => pure (goInt n)
    | .pointer arr, _ =>
     let .array n _ ← underlying arr | stuck "len: pointer to array expected"
     pure (goInt n)
    | .slice _, .slice _ n _ => pure (goInt n)
    | .map _ _, .map none | .chan _ _, .chan none => pure (goInt 0)
    | .map _ _, .map (some r) =>
     let .map entries _ ← getObj r | stuck "len: map expected"
     pure (goInt entries.size)
    | .chan _ _, .chan (some r) =>
     let .chan _ buf _ _ _ timer ← getObj r | stuck "len: channel expected"
     pure (goInt (if timer then 0 else buf.size))
    | _, _ => stuck "len: string, array, pointer to array, slice, map or channel expected" : Sem Value).run P w = .ok (.int .i64 n) w := by
   rintro a m c rfl rfl
   simp only [Sem.run_bind, run_underlying hu, Result.andThen_ok]
   rfl
  split at h
  ·next es =>
   cases h
   cases hx.d_inv with
   | nil a c => exact hs _ _ _ rfl rfl
   | sl es a c sz f => exact hs _ _ _ rfl rfl
  ·next o sz =>
   split at h
   ·next szr es hlk =>
    cases h
    have hβe : ∃ g, β o = .row szr es.length g := by
     rcases hO.row (hl.row hlk) with ⟨rfl, hβ⟩ | ⟨b, cur, t, lo, hi, hβ, -⟩
     ·exact ⟨_, hβ⟩
     ·exact ⟨_, hβ⟩
    obtain ⟨g, hβ⟩ := hβe
    cases hx with
    | own o sz v hC hone hv => obtain ⟨rfl, a, c, rfl, -⟩ := hv _ _ _ hβ; exact hs _ _ _ rfl rfl
   ·cases h
  ·next o sz lo m =>
   split at h
   ·next szr es hlk =>
    cases h
    have hβe : ∃ g, β o = .row szr es.length g := by
     rcases hO.row (hl.row hlk) with ⟨rfl, hβ⟩ | ⟨b, cur, t, lo, hi, hβ, -⟩
     ·exact ⟨_, hβ⟩
     ·exact ⟨_, hβ⟩
    obtain ⟨g, hβ⟩ := hβe
    cases hx with
    | sub o sz lo m v hC hone hv => obtain ⟨rfl, -, a, c, rfl, -⟩ := hv _ _ _ hβ; exact hs _ _ _ rfl rfl
   ·cases h
  ·next a m c => cases h; obtain rfl := hx.raw_inv; exact hs _ _ _ rfl rfl
  ·cases h
 ·next m el hu =>
  cases h
  simp only [Sem.run_bind, run_underlying hu, Result.andThen_ok]
  rfl
 ·cases h
/-- Two lists, one by one. -/
inductive Fa {α β : Type} (R : α → β → Prop) : List α → List β → Prop
 | nil : Fa R [] []
 | cons {x : α} {y : β} {l : List α} {m : List β} (h : R x y) (r : Fa R l m) : Fa R (x :: l) (y :: m)
theorem minFrom_ok {k : IntKind} {a n : Int} {l : List AV} {vs : List Value} (h : minFrom a l = some n) (hv : Fa (AR O β X w) l vs) : (vs.foldlM Builtin.min2 (.int k a)).run P w = .ok (.int k n) w := by
 induction l generalizing a vs with
 | nil => cases hv; cases h; rfl
 | cons x r ih =>
  cases hv with
  | cons hx hr =>
   unfold minFrom at h
   split at h
   ·next h1 => cases h1
   ·next k' b r' heq =>
    cases heq
    obtain rfl := hx.d_inv.int_inv
    have e : Builtin.min2 (.int k a) (.int k' b) = pure (.int k (min a b)) := by
     simp only [Builtin.min2]
     congr 2
     rw [Int.min_def]
     split <;> split <;> omega
    rw [List.foldlM_cons, e]
    simp only [pure_bind]
    exact ih h hr
   ·cases h
theorem maxFrom_ok {k : IntKind} {a n : Int} {l : List AV} {vs : List Value} (h : maxFrom a l = some n) (hv : Fa (AR O β X w) l vs) : (vs.foldlM Builtin.max2 (.int k a)).run P w = .ok (.int k n) w := by
 induction l generalizing a vs with
 | nil => cases hv; cases h; rfl
 | cons x r ih =>
  cases hv with
  | cons hx hr =>
   unfold maxFrom at h
   split at h
   ·next h1 => cases h1
   ·next k' b r' heq =>
    cases heq
    obtain rfl := hx.d_inv.int_inv
    have e : Builtin.max2 (.int k a) (.int k' b) = pure (.int k (max a b)) := by
     simp only [Builtin.max2]
     congr 2
     rw [Int.max_def]
     split <;> split <;> omega
    rw [List.foldlM_cons, e]
    simp only [pure_bind]
    exact ih h hr
   ·cases h
end
end Sx
end Go.Proofs.YtalpfhpeaaocmaaGreat
end
section
namespace Go.Proofs.YtalpfhpeaaocmaaGreat
namespace Sx
open Go.RowKit
section
variable {P : Program} {O : Nat → Ob} {β : Nat → HE} {X : Nat → Prop} {w : World} {look : Nat → Ob}
/-- Cells that stand for abstract cells. -/
structure CR (O : Nat → Ob) (β : Nat → HE) (X : Nat → Prop) (w : World) (cs : List AV) (vs : Array Value) : Prop where
 size : vs.size = cs.length
 at_ : ∀ j x, cs[j]? = some x → AR O β X w x (vs.getD j undef)
theorem CR.one {x : AV} {v : Value} (h : AR O β X w x v) : CR O β X w [x] #[v] := by
 refine ⟨rfl, fun j y hj => ?_⟩
 cases j with
 | zero => cases hj; exact h
 | succ j => simp at hj
theorem one_cells {v : Value} (h : v.oneCell' = true) : v.cells = #[v] := by cases v <;> first | rfl | (cases h)
theorem cells_ok {x : AV} {v : Value} {cs : List AV} (h : x.cells = some cs) (hx : AR O β X w x v) : CR O β X w cs v.cells := by
 unfold AV.cells at h
 split at h
 ·next ds =>
  cases h
  obtain ⟨vs, rfl, hl, -, hr⟩ := agg_inv hx
  refine ⟨by simpa [Value.cells] using hl, fun j x hj => ?_⟩
  rw [List.getElem?_map] at hj
  cases hd : ds[j]? with
  | none => rw [hd] at hj; cases hj
  | some d => rw [hd] at hj; cases hj; exact .d _ _ (hr j d hd)
 ·cases h; obtain rfl := hx.d_inv.int_inv; exact CR.one hx
 ·cases h; obtain rfl := hx.d_inv.bool_inv; exact CR.one hx
 ·cases h; obtain rfl := hx.d_inv.str_inv; exact CR.one hx
 ·cases h
  have h1 := hx.d_inv
  cases h1 with
  | nil a c => exact CR.one hx
  | sl es a c sz f => exact CR.one hx
 ·cases h
  cases hx with
  | agg cs vs hl hr => exact ⟨hl, hr⟩
 ·cases h
 ·cases h
 ·next u h1 h2 =>
  cases h
  obtain rfl := hx.raw_inv
  have : v.cells = #[v] := by cases v <;> first | rfl | (exact absurd rfl (h1 _))
  rw [this]
  exact CR.one hx
 ·cases h
 ·cases h
 ·next h1 h2 h3 h4 h5 h6 h7 h8 h9 h10 h11 =>
  cases h
  have hc : v.cells = #[v] := by
   cases hx with
   | d d _ hd => cases d <;> simp_all
   | raw v => cases v <;> simp_all
   | ptr o off v hC hone hv => exact one_cells hone
   | rptr o sz i off v hC hone hv => exact one_cells hone
   | eptr e off p f => rfl
   | own o sz v hC hone hv => exact one_cells hone
   | sub o sz lo n v hC hone hv => exact one_cells hone
   | agg cs vs hl hr => simp_all
   | tup cs vs hl hr => simp_all
   | fn f cs vs => rfl
   | meth f cs vs => rfl
   | dead v => simp_all
  rw [hc]
  exact CR.one hx
theorem setAt_length {α : Type} {old cs : List α} {off : Nat} (h : off + cs.length ≤ old.length) : (setAt old off cs).length = old.length := by
 simp [setAt]; omega
theorem setAt_get {α : Type} {old cs : List α} {off : Nat} (h : off + cs.length ≤ old.length) (j : Nat) :
  (setAt old off cs)[j]? = if off ≤ j ∧ j < off + cs.length then cs[j - off]? else old[j]? := by
 unfold setAt
 rw [List.append_assoc]
 by_cases h1 : j < off
 ·rw [List.getElem?_append_left (by simp; omega), List.getElem?_take_of_lt h1, if_neg (by omega)]
 ·rw [List.getElem?_append_right (by simp; omega)]
  have e : (old.take off).length = off := by simp; omega
  rw [e]
  by_cases h2 : j < off + cs.length
  ·rw [List.getElem?_append_left (by omega), if_pos (by omega)]
  ·rw [List.getElem?_append_right (by omega), if_neg (by omega), List.getElem?_drop]
   congr 1
   omega
/-- Writing cells one by one. -/
theorem foldSet (vs : List Value) : ∀ (i off : Nat) (cells : Array Value), ((vs.zipIdx i).foldl (fun cs (p : Value × Nat) => cs.setIfInBounds (off + p.2) p.1) cells).size = cells.size ∧
  ∀ j, ((vs.zipIdx i).foldl (fun cs (p : Value × Nat) => cs.setIfInBounds (off + p.2) p.1) cells)[j]? = if off + i ≤ j ∧ j < off + i + vs.length ∧ j < cells.size then vs[j - (off + i)]? else cells[j]? := by
 induction vs with
 | nil => intro i off cells; exact ⟨rfl, fun j => by simp; intro h1 h2; omega⟩
 | cons v r ih =>
  intro i off cells
  simp only [List.zipIdx_cons, List.foldl_cons]
  obtain ⟨h1, h2⟩ := ih (i + 1) off (cells.setIfInBounds (off + i) v)
  refine ⟨by rw [h1]; simp, fun j => ?_⟩
  rw [h2 j]
  simp only [Array.size_setIfInBounds, List.length_cons, Array.getElem?_setIfInBounds]
  by_cases hj : off + i = j
  ·subst hj
   by_cases hs : off + i < cells.size
   ·simp [hs]; omega
   ·simp [hs]
  ·by_cases hc : off + (i + 1) ≤ j ∧ j < off + (i + 1) + r.length ∧ j < cells.size
   ·rw [if_pos hc, if_pos (by omega), show j - (off + i) = (j - (off + (i + 1))) + 1 by omega, List.getElem?_cons_succ]
   ·rw [if_neg hc, if_neg hj, if_neg (by omega)]
theorem CR.setAt {cs ds : List AV} {vs us : Array Value} {off : Nat} (h : CR O β X w cs vs) (k : CR O β X w ds us) (hf : off + ds.length ≤ cs.length) :
  CR O β X w (setAt cs off ds) (us.zipIdx.foldl (fun c (p : Value × Nat) => c.setIfInBounds (off + p.2) p.1) vs) := by
 have e : us.zipIdx.foldl (fun c (p : Value × Nat) => c.setIfInBounds (off + p.2) p.1) vs = (us.toList.zipIdx 0).foldl (fun c (p : Value × Nat) => c.setIfInBounds (off + p.2) p.1) vs := by
  rw [← Array.foldl_toList, Array.toList_zipIdx]
 rw [e]
 obtain ⟨h1, h2⟩ := foldSet us.toList 0 off vs
 refine ⟨by rw [h1, h.size, setAt_length hf], fun j x hj => ?_⟩
 have e2 := h2 j
 rw [setAt_get hf] at hj
 simp only [Nat.add_zero, Array.length_toList] at e2
 have hus := k.size
 have hvs := h.size
 rw [Array.getD_eq_getD_getElem?, e2]
 by_cases hc : off ≤ j ∧ j < off + ds.length
 ·rw [if_pos hc] at hj
  rw [if_pos (by omega)]
  have := k.at_ _ _ hj
  rw [Array.getD_eq_getD_getElem?] at this
  simpa using this
 ·rw [if_neg hc] at hj
  rw [if_neg (by omega)]
  have := h.at_ _ _ hj
  rwa [Array.getD_eq_getD_getElem?] at this
theorem fill_ok {place : Nat → Option (Nat × Nat)} {parts : List (Nat × AV)} {vparts : List (Nat × Value)} {cs cs' : List AV} {vs : Array Value} (h : fillAV place cs parts = some cs') (hc : CR O β X w cs vs)
  (hp : Fa (fun (p : Nat × AV) (q : Nat × Value) => p.1 = q.1 ∧ AR O β X w p.2 q.2) parts vparts) : ∃ vs', Instr.fill place vs vparts = some vs' ∧ CR O β X w cs' vs' := by
 induction hp generalizing cs vs with
 | nil => cases h; exact ⟨vs, rfl, hc⟩
 | @cons p q l m hpq hr ih =>
  obtain ⟨i, x⟩ := p
  obtain ⟨i', v⟩ := q
  obtain ⟨rfl, hx⟩ := hpq
  unfold fillAV at h
  split at h
  ·next off size cx hpl hcx =>
   split at h
   ·next hfit =>
    have hk := cells_ok hcx hx
    obtain ⟨vs', h1, h2⟩ := ih h (hc.setAt hk (by omega))
    refine ⟨vs', ?_, h2⟩
    unfold Instr.fill
    rw [hpl]
    have e1 : v.cells.size = cx.length := hk.size
    have e2 := hc.size
    show (if (decide (v.cells.size ≠ size) || decide (off + v.cells.size > vs.size)) = true then none else _) = _
    rw [if_neg]
    ·exact h1
    ·simp only [Bool.or_eq_true, decide_eq_true_eq, not_or]
     omega
   ·cases h
  ·cases h
theorem constAV_ok (v : Value) : AR O β X w (constAV v) v := by
 unfold constAV
 split
 ·exact .d _ _ (.int _ _)
 ·exact .d _ _ (.bool _)
 ·next s => exact .d _ _ (by obtain ⟨⟨l⟩⟩ := s; exact .str l)
 ·exact .raw _
theorem zeroC_ok {T : TypeId} {cs : List AV} (h : zeroC P T = some cs) : ∃ v, (zeroValue T).run P w = .ok v w ∧ CR O β X w cs v.cells := by
 unfold zeroC at h
 split at h
 ·next i hi =>
  split at h
  ·next v hv =>
   cases h
   refine ⟨v, by simp [zeroValue, typeInfo, hi, hv], by simp, fun j x hj => ?_⟩
   rw [List.getElem?_map] at hj
   cases hd : v.cells.toList[j]? with
   | none => rw [hd] at hj; cases hj
   | some u =>
    rw [hd] at hj; cases hj
    have : v.cells.getD j undef = u := by
     rw [Array.getD_eq_getD_getElem?, ← Array.getElem?_toList, hd]; rfl
    rw [this]
    exact constAV_ok u
  ·cases h
 ·cases h
theorem places_ok {fs : List Field} (h : fs.all (fun f => (szT P f.type).isSome) = true) : (fs.mapM fun f => (do pure (f.offset, ← sizeOf f.type) : Sem (Nat × Nat))).run P w =
  .ok (fs.map fun f => (f.offset, (szT P f.type).getD 0)) w := by
 induction fs with
 | nil => simp
 | cons f r ih =>
  simp only [List.all_cons, Bool.and_eq_true] at h
  obtain ⟨n, hn⟩ := Option.isSome_iff_exists.1 h.1
  simp only [List.mapM_cons, Sem.run_bind, szT_run hn, Result.andThen_ok, Sem.run_pure, ih h.2, List.map_cons, hn, Option.getD_some]
theorem fill_place_congr {p q : Nat → Option (Nat × Nat)} (h : ∀ i, p i = q i) (vs : Array Value) (l : List (Nat × Value)) : Instr.fill p vs l = Instr.fill q vs l := by
 have : p = q := funext h
 rw [this]
theorem actBuild_ok {T : TypeId} {parts : List (Nat × AV)} {vparts : Array (Nat × Value)} {e : Eff} (hp : Fa (fun (p : Nat × AV) (q : Nat × Value) => p.1 = q.1 ∧ AR O β X w p.2 q.2) parts vparts.toList)
  (ha : actBuild P T parts = some e) : ∃ v, (Instr.build T vparts).run P w = .ok v w ∧ AR O β X w e.val v ∧ e.wr = [] := by
 unfold actBuild at ha
 split at ha
 ·next fs z hu hz =>
  obtain ⟨v0, hv0, hc0⟩ := zeroC_ok (O := O) (β := β) (X := X) (w := w) hz
  split at ha
  ·next hall =>
   split at ha
   ·next cs hf =>
    cases ha
    obtain ⟨vs', h1, h2⟩ := fill_ok hf hc0 hp
    refine ⟨.agg vs', ?_, mkAgg_ok h2.size h2.at_, rfl⟩
    have hm : (fs.mapM fun f => (do pure (f.offset, ← sizeOf f.type) : Sem (Nat × Nat))).run P w = .ok (fs.toList.map fun f => (f.offset, (szT P f.type).getD 0)).toArray w := by
     have h3 := places_ok (P := P) (w := w) hall
     rw [Array.mapM_eq_mapM_toList]
     simp only [Sem.run_map, h3, Result.andThen_ok]
    have hpl : ∀ i, (fs.toList.map fun f => (f.offset, (szT P f.type).getD 0)).toArray[i]? = placeF P fs i := by
     intro i
     simp only [List.getElem?_toArray, List.getElem?_map, placeF, Array.getElem?_toList]
     cases hfi : fs[i]? with
     | none => rfl
     | some f =>
      have hmem : f ∈ fs.toList := by
       have := Array.mem_of_getElem? hfi
       simpa using this
      obtain ⟨n, hn⟩ := Option.isSome_iff_exists.1 (List.all_eq_true.1 hall f hmem)
      simp [hn]
    simp only [Instr.build, Sem.run_bind, hv0, Result.andThen_ok, run_underlying hu, hm]
    rw [fill_place_congr hpl, h1]
    rfl
   ·cases ha
  ·cases ha
 ·next n elem z hu hz =>
  obtain ⟨v0, hv0, hc0⟩ := zeroC_ok (O := O) (β := β) (X := X) (w := w) hz
  split at ha
  ·next sz hsz =>
   split at ha
   ·next cs hf =>
    cases ha
    obtain ⟨vs', h1, h2⟩ := fill_ok hf hc0 hp
    refine ⟨.agg vs', ?_, mkAgg_ok h2.size h2.at_, rfl⟩
    simp only [Instr.build, Sem.run_bind, hv0, Result.andThen_ok, run_underlying hu, szT_run hsz]
    rw [h1]
    rfl
   ·cases ha
  ·cases ha
 ·cases ha
end
end Sx
end Go.Proofs.YtalpfhpeaaocmaaGreat
end
section
namespace Go.Proofs.YtalpfhpeaaocmaaGreat
namespace Sx
open Go.RowKit
section
variable {P : Program} {O : Nat → Ob} {β : Nat → HE} {X : Nat → Prop} {w : World} {look : Nat → Ob}
theorem Objs.create (hO : Objs O β X w) {n : Nat} (hn : O n = .none) {ob : Ob} {he : HE} {w' : World} (hevo : Evo (fun _ => False) w w') (hblk : ∀ b, he.blk = some b → w.heap.size = b) (hob : ob ≠ .none)
  (hrel : Step O (upd O n ob) β (upd β n he) w w' → ObjRel w' (Mset X (upd β n he)) (upd β n he) (fun o => upd O n ob o ≠ .none) ob he) :
  Objs (upd O n ob) (upd β n he) X w' ∧ Step O (upd O n ob) β (upd β n he) w w' := by
 have hβn : β n = .gone := by
  have := hO.rel n
  rw [hn] at this
  generalize β n = g at this
  cases this
  rfl
 have hstep : Step O (upd O n ob) β (upd β n he) w w' := by
  refine ⟨hevo.weaken (fun _ h => h.elim), fun o ho => ?_, fun b hb => ?_⟩
  ·have : o ≠ n := by rintro rfl; exact ho hn
   rw [upd_other _ _ this, upd_other _ _ this]
   exact ⟨ho, .inl rfl⟩
  ·obtain ⟨o, ho⟩ := hb
   by_cases h : o = n
   ·subst h
    rw [upd_same] at ho
    exact .inr (Nat.le_of_eq (hblk b ho))
   ·rw [upd_other _ _ h] at ho
    exact .inl ⟨o, ho⟩
 refine ⟨⟨fun o => ?_, fun o o' b h1 h2 => ?_, fun o b hb hx => ?_, fun b hb => Nat.lt_of_lt_of_le (hO.xlt b hb) hevo.size⟩, hstep⟩
 ·by_cases h : o = n
  ·subst h
   rw [upd_same, upd_same]
   exact hrel hstep
  ·rw [upd_other _ _ h, upd_other _ _ h]
   exact (hO.rel o).mono hstep.evo (fun _ hb => .inr hb) (hstep.mset X) hstep.keep fun b hb => hevo.block b ((hO.rel o).lt hb) (fun h => h)
 ·by_cases e1 : o = n
  ·by_cases e2 : o' = n
   ·rw [e1, e2]
   ·subst e1
    rw [upd_same] at h1
    rw [upd_other _ _ e2] at h2
    have := (hO.rel o').lt h2
    have := hblk b h1
    omega
  ·by_cases e2 : o' = n
   ·subst e2
    rw [upd_same] at h2
    rw [upd_other _ _ e1] at h1
    have := (hO.rel o).lt h1
    have := hblk b h2
    omega
   ·rw [upd_other _ _ e1] at h1
    rw [upd_other _ _ e2] at h2
    exact hO.inj o o' b h1 h2
 ·by_cases e1 : o = n
  ·subst e1
   rw [upd_same] at hb
   have := hblk b hb
   have := hO.xlt b hx
   omega
  ·rw [upd_other _ _ e1] at hb
   exact hO.priv o b hb hx
theorem Objs.kill (hO : Objs O β X w) {n : Nat} (hn : O n ≠ .none) : Objs (upd O n .gone) (upd β n .gone) X w ∧ Step O (upd O n .gone) β (upd β n .gone) w w := by
 have hsub : ∀ o b, (upd β n HE.gone o).blk = some b → (β o).blk = some b ∧ o ≠ n := fun o b hb => by
  by_cases h : o = n
  ·subst h; rw [upd_same] at hb; cases hb
  ·rw [upd_other _ _ h] at hb; exact ⟨hb, h⟩
 have hstep : Step O (upd O n .gone) β (upd β n .gone) w w := by
  refine ⟨Evo.refl _ _, fun o ho => ?_, fun b ⟨o, ho⟩ => .inl ⟨o, (hsub o b ho).1⟩⟩
  by_cases h : o = n
  ·subst h; rw [upd_same, upd_same]; exact ⟨by simp, .inr rfl⟩
  ·rw [upd_other _ _ h, upd_other _ _ h]; exact ⟨ho, .inl rfl⟩
 refine ⟨⟨fun o => ?_, fun o o' b h1 h2 => hO.inj o o' b (hsub _ _ h1).1 (hsub _ _ h2).1, fun o b hb => hO.priv o b (hsub _ _ hb).1, hO.xlt⟩, hstep⟩
 by_cases h : o = n
 ·subst h; rw [upd_same, upd_same]; exact .gone
 ·rw [upd_other _ _ h, upd_other _ _ h]
  exact (hO.rel o).mono hstep.evo (fun _ hb => .inr hb) (hstep.mset X) hstep.keep fun _ _ => rfl
/-- An object is written in place. -/
theorem Objs.write (hO : Objs O β X w) {n b : Nat} (hn : O n ≠ .none) (hb : (β n).blk = some b) {ob : Ob} {w' : World} (hevo : Evo (fun x => x = b) w w') (hob : ob ≠ .none)
  (hrel : Step O (upd O n ob) β β w w' → ObjRel w' (Mset X β) β (fun o => upd O n ob o ≠ .none) ob (β n)) :
  Objs (upd O n ob) β X w' ∧ Step O (upd O n ob) β β w w' := by
 have hstep : Step O (upd O n ob) β β w w' := by
  refine ⟨hevo.weaken (fun x h => h ▸ ⟨n, hb⟩), fun o ho => ?_, fun b hb => .inl hb⟩
  by_cases h : o = n
  ·subst h; rw [upd_same]; exact ⟨hob, .inl rfl⟩
  ·rw [upd_other _ _ h]; exact ⟨ho, .inl rfl⟩
 refine ⟨⟨fun o => ?_, hO.inj, hO.priv, fun x hx => Nat.lt_of_lt_of_le (hO.xlt x hx) hevo.size⟩, hstep⟩
 by_cases h : o = n
 ·subst h; rw [upd_same]; exact hrel hstep
 ·rw [upd_other _ _ h]
  exact (hO.rel o).mono hstep.evo (fun _ hb => .inr hb) (hstep.mset X) hstep.keep fun b' hb' => hevo.block b' ((hO.rel o).lt hb') (fun e => h (hO.inj o n b (e ▸ hb') hb))
theorem Done.of_one {β' : Nat → HE} {w' : World} {n : Nat} {ob : Ob} {x : AV} {v : Value} {obs : List Prop} (h : Objs (upd O n ob) β' X w' ∧ Step O (upd O n ob) β β' w w')
  (hv : AR (upd O n ob) β' X w' x v) : Done O β X w ⟨x, [(n, ob)], obs⟩ v β' w' := ⟨hv, h.1, h.2⟩
/-- A new block of cells that stand for abstract cells. -/
theorem new_box (hO : Objs O β X w) {n : Nat} (hn : O n = .none) {cs : List AV} {vs : Array Value} (hc : CR O β X w cs vs) (t : TypeId) (obs : List Prop) :
  Done O β X w ⟨.ptr n 0, [(n, .box cs)], obs⟩ (.pointer (some ⟨w.heap.size, 0, none⟩)) (upd β n (.box w.heap.size)) (w.alloc (.cells vs t)) := by
 have hevo : Evo (fun _ => False) w (w.alloc (.cells vs t)) := (Evo.refl _ _).alloc _
 have h := hO.create (ob := .box cs) (he := .box w.heap.size) hn hevo (fun b hb => by cases hb; rfl) (by simp) fun hs =>
  .box cs w.heap.size vs t 0 0 (heap_alloc_new w _) (fun j => by omega) hc.size fun j x hj => hs.rav (hc.at_ j x hj)
 refine ⟨.ptr _ _ _ (by simp [updL, upd_same]) rfl fun b hb => ?_, h.1, h.2⟩
 rw [upd_same] at hb
 cases hb
 rfl
/-- A new block of cells that stand for a row of plain elements. -/
theorem new_row (hO : Objs O β X w) {n : Nat} (hn : O n = .none) {sz : Nat} {es : List D} {vs : Array Value} (t lo hi : Nat) (hf : Fz lo hi vs.size)
  (hsz : ∀ e ∈ es, e.cells.length = sz ∧ ∀ d ∈ e.cells, d.one = true) (hl : es.length * sz ≤ vs.size)
  (hr : ∀ i j e d, es[i]? = some e → e.cells[j]? = some d → RepD w (Mset X β) d (vs.getD (i * sz + j) undef)) (w' : World) (hevo : Evo (fun _ => False) w w')
  (hh : w'.heap[w.heap.size]? = some (.cells vs t (lo, hi))) :
  Objs (upd O n (.row sz es)) (upd β n (.row sz es.length (some (w.heap.size, vs.size)))) X w' ∧ Step O (upd O n (.row sz es)) β (upd β n (.row sz es.length (some (w.heap.size, vs.size)))) w w' :=
 hO.create (ob := .row sz es) (he := .row sz es.length (some (w.heap.size, vs.size))) hn hevo (fun b hb => by cases hb; rfl) (by simp) fun hs =>
  .row sz es w.heap.size vs t lo hi hh hf hsz hl fun i j e d h1 h2 => hs.repd (hr i j e d h1 h2)
theorem actBox_ok {dst : Nat} {T : TypeId} {x : AV} {e : Eff} {vx : Value} (hO : Objs O β X w) (hl : Looks O look) (hx : AR O β X w x vx) (ha : actBox dst x look = some e) :
  ∃ v w' β', (Instr.box T vx).run P w = .ok v w' ∧ Done O β X w e v β' w' := by
 unfold actBox at ha
 split at ha
 ·next cs hlk hcs =>
  cases ha
  exact ⟨_, _, _, rfl, new_box hO (hl.none hlk) (cells_ok hcs hx) T []⟩
 ·cases ha
theorem list_repl_get {z : D} {n i : Nat} {e : D} (h : (List.replicate n z)[i]? = some e) : e = z := by
 have := List.mem_of_getElem? h
 exact (List.mem_replicate.1 this).2
theorem one_dcells {d : D} (h : d.one = true) : d.cells = [d] := by cases d <;> first | rfl | (cases h)
theorem same_eq {z : D} {x : AV} (h : sameAV z x = true) : x = AV.d z := by
 unfold sameAV at h
 split at h
 ·next y =>
  congr 1
  cases y <;> cases z <;> simp_all [D.same]
  all_goals (rename_i s t; cases s <;> cases t <;> simp_all [D.same])
 ·cases h
theorem actAlloc_ok {dst : Nat} {T : TypeId} {h : OH} {e : Eff} (hO : Objs O β X w) (hl : Looks O look) (ha : actAlloc P dst T h look = some e) :
  ∃ v w' β', (Instr.alloc T true (.tuple #[])).run P w = .ok v w' ∧ Done O β X w e v β' w' := by
 unfold actAlloc at ha
 split at ha
 ·next cs hlk hcs =>
  obtain ⟨z, hz, hc⟩ := zeroC_ok (P := P) (O := O) (β := β) (X := X) (w := w) hcs
  have hrun : (Instr.alloc T true (.tuple #[])).run P w = .ok (.pointer (some ⟨w.heap.size, 0, none⟩)) (w.alloc (.cells z.cells T)) := by
   simp only [Instr.alloc, Sem.run_bind, hz, Result.andThen_ok]
   rfl
  split at ha
  ·split at ha
   ·next n elem hu =>
    split at ha
    ·next zd hze hse =>
     split at ha
     ·next hcond =>
      obtain ⟨hone, hlen, hall⟩ := hcond
      cases ha
      have hsame : ∀ j x, cs[j]? = some x → x = AV.d zd := fun j x hj => same_eq (List.all_eq_true.1 hall x (List.mem_of_getElem? hj))
      have hzs := hc.size
      have hcells : zd.cells = [zd] := one_dcells hone
      have hrow := new_row (sz := 1) (es := List.replicate n zd) (vs := z.cells) hO (hl.none hlk) T 0 0 (.inl rfl)
       (fun e he => by
        obtain rfl := (List.mem_replicate.1 he).2
        rw [hcells]
        exact ⟨rfl, fun d hd => by rw [List.mem_singleton.1 hd]; exact hone⟩)
       (by simp; omega)
       (fun i j e d h1 h2 => by
        obtain rfl := list_repl_get h1
        rw [hcells] at h2
        have hj : j = 0 := by
         cases j with
         | zero => rfl
         | succ j => simp at h2
        subst hj
        have hin : i < n := by have := (List.getElem?_eq_some_iff.1 h1).1; simpa using this
        have hcx : cs[i]? = some cs[i] := List.getElem?_eq_getElem (by omega)
        have := hc.at_ i _ hcx
        rw [hsame _ _ hcx] at this
        cases h2
        simpa using this.d_inv)
       (w.alloc (.cells z.cells T)) ((Evo.refl _ _).alloc _) (heap_alloc_new w _)
      refine ⟨_, _, _, hrun, Done.of_one hrow (.rptr _ _ _ _ _ (by simp [upd_same]) rfl fun sz' len b m hb => ?_)⟩
      rw [upd_same] at hb
      cases hb
      exact ⟨rfl, by simp⟩
     ·cases ha
    ·cases ha
   ·cases ha
  ·cases ha
   exact ⟨_, _, _, hrun, new_box hO (hl.none hlk) hc T []⟩
 ·cases ha
theorem run_storeCells (g o : Nat) (t lo hi : Nat) : ∀ (vs : List Value) (i : Nat) (cur : Array Value) (w : World), w.heap[g]? = some (.cells cur t (lo, hi)) → o + i + vs.length ≤ cur.size →
  (∀ j, j < cur.size → ¬ (lo ≤ j ∧ j < hi)) → (∀ v ∈ vs, v.oneCell' = true) →
  (storeCells ⟨g, o, none⟩ vs i).run P w = .ok () (w.setRow g (cur.toList.take (o + i) ++ vs ++ cur.toList.drop (o + i + vs.length)).toArray)
 | [], i, cur, w, hg, _, _, _ => by
  simp only [storeCells, List.append_nil, List.length_nil, Nat.add_zero, List.take_append_drop, Array.toArray_toList]
  rw [setRow_self w g cur t (lo, hi) hg]
  rfl
 | v :: rest, i, cur, w, hg, hl, hf, h1 => by
  have hi' : o + i < cur.size := by simp at hl; omega
  have hadd : (⟨g, o, none⟩ : Addr).add i = ⟨g, o + i, none⟩ := add_mk _ _ _
  have hcell : w.cell? ⟨g, o + i, none⟩ = some cur[o + i] := by simp [World.cell?, hg, hi']
  have hfro : w.frozen? ⟨g, o + i, none⟩ = false := by
   have := hf (o + i) hi'
   simp only [World.frozen?, hg]
   simpa using this
  have hst : (store ((⟨g, o, none⟩ : Addr).add i) v).run P w = .ok () (w.setRow g (cur.setIfInBounds (o + i) v)) := by
   rw [hadd, run_store P w _ v _ (h1 v (by simp)), hcell]
   simp [hfro, setCell_eq_setRow w g (o + i) cur t (lo, hi) v hg]
  have ih := run_storeCells g o t lo hi rest (i + 1) (cur.setIfInBounds (o + i) v) (w.setRow g (cur.setIfInBounds (o + i) v)) (setRow_heap w g cur _ t _ hg) (by simp at hl ⊢; omega)
   (by simpa using hf) (fun x hx => h1 x (by simp [hx]))
  simp only [storeCells, Sem.run_bind, hst, Result.andThen_ok, ih, setRow_setRow]
  congr 3
  have e := list_seg_step cur.toList (o + i) v rest (by simp at hl ⊢; omega)
  simpa [Array.toList_setIfInBounds, Nat.add_assoc] using e
theorem setRow_evo (w : World) (g : Nat) (cs : Array Value) : Evo (fun x => x = g) w (w.setRow g cs) :=
 ⟨rfl, rfl, rfl, by simp, fun b _ hb => setRow_other w g b cs hb⟩
theorem CR.one_cells {cs : List AV} {vs : Array Value} (h : CR O β X w cs vs) (ho : cs.all AV.one = true) : ∀ v ∈ vs.toList, v.oneCell' = true := by
 intro v hv
 obtain ⟨j, hj, rfl⟩ := List.getElem_of_mem hv
 have hj' : j < cs.length := by have := h.size; simp at hj; omega
 have hx := h.at_ j cs[j] (List.getElem?_eq_getElem hj')
 have h1 := List.all_eq_true.1 ho cs[j] (List.getElem_mem hj')
 have e : vs.getD j undef = vs.toList[j] := by
  simp at hj
  simp [Array.getD_eq_getD_getElem?, hj]
 rw [e] at hx
 generalize vs.toList[j] = u at hx
 generalize cs[j] = x at hx h1
 cases hx with
 | d d _ hd => exact (hd.one h1).1
 | raw v => exact h1
 | ptr o off v hC hone hv => exact hone
 | rptr o sz i off v hC hone hv => exact hone
 | eptr e off p f => rfl
 | own o sz v hC hone hv => exact hone
 | sub o sz lo n v hC hone hv => exact hone
 | agg cs vs hl hr => cases h1
 | tup cs vs hl hr => cases h1
 | fn f cs vs => rfl
 | meth f cs vs => rfl
 | dead v => cases h1
theorem getD_setAt {cur : Array Value} {vs : List Value} {off : Nat} (h : off + vs.length ≤ cur.size) (j : Nat) :
  (cur.toList.take off ++ vs ++ cur.toList.drop (off + vs.length)).toArray.getD j undef = if off ≤ j ∧ j < off + vs.length then vs.getD (j - off) undef else cur.getD j undef := by
 have := setAt_get (old := cur.toList) (cs := vs) (off := off) (by simpa using h) j
 unfold setAt at this
 rw [Array.getD_eq_getD_getElem?, List.getElem?_toArray, this]
 split
 ·rw [List.getD_eq_getElem?_getD]
 ·rw [Array.getElem?_toList, Array.getD_eq_getD_getElem?]
theorem getD_setAt' {cur : Array Value} {vs : List Value} {off n : Nat} (h : off + vs.length ≤ cur.size) (hn : vs.length = n) (j : Nat) :
  (cur.toList.take off ++ vs ++ cur.toList.drop (off + vs.length)).toArray.getD j undef = if off ≤ j ∧ j < off + n then vs.getD (j - off) undef else cur.getD j undef := by
 subst hn; exact getD_setAt h j
theorem storeVar_run {T : TypeId} {n : Nat} (hn : szT P T = some n) {v : Value} {g o t lo hi : Nat} {cur : Array Value} (hs : v.cells.size = n) (hg : w.heap[g]? = some (.cells cur t (lo, hi))) (hfit : o + n ≤ cur.size)
  (hf : ∀ j, j < cur.size → ¬ (lo ≤ j ∧ j < hi)) (h1 : ∀ u ∈ v.cells.toList, u.oneCell' = true) :
  (Instr.storeAt T (.pointer (some ⟨g, o, none⟩)) v).run P w = .ok () (w.setRow g (cur.toList.take o ++ v.cells.toList ++ cur.toList.drop (o + v.cells.toList.length)).toArray) := by
 have := run_storeCells (P := P) g o t lo hi v.cells.toList 0 cur w hg (by simp; omega) hf h1
 simp only [Nat.add_zero] at this
 simp only [Instr.storeAt, Instr.sureAddr, Sem.run_bind, Sem.run_pure, Result.andThen_ok, storeVar, szT_run hn, hs, ne_eq, not_true, if_false]
 exact this
theorem setCells_ok {e : D} {off sz : Nat} {ds : List D} (hlen : e.cells.length = sz) (hone : ∀ d ∈ e.cells, d.one = true) (h0 : 0 < ds.length) (hfit : off + ds.length ≤ e.cells.length) (hds : ∀ d ∈ ds, d.one = true) :
  (e.setCells off ds).cells = setAt e.cells off ds ∧ (e.setCells off ds).cells.length = sz ∧ ∀ d ∈ (e.setCells off ds).cells, d.one = true := by
 have key : (e.setCells off ds).cells = setAt e.cells off ds := by
  cases e with
  | agg cs => rfl
  | _ =>
   simp only [D.cells, List.length_singleton] at hfit
   have h1 : off = 0 := by omega
   subst h1
   match ds, h0, hfit, hds with
   | [x], _, _, hds => exact (one_dcells (hds x (by simp))).trans rfl
   | x :: y :: r, _, hfit, _ => simp at hfit
 refine ⟨key, by rw [key, setAt_length hfit, hlen], fun d hd => ?_⟩
 rw [key] at hd
 unfold setAt at hd
 rcases List.mem_append.1 hd with hd | hd
 ·rcases List.mem_append.1 hd with hd | hd
  ·exact hone d (List.mem_of_mem_take hd)
  ·exact hds d hd
 ·exact hone d (List.mem_of_mem_drop hd)
theorem actStore_ok {T : TypeId} {x y : AV} {h : OH} {e : Eff} {vx vy : Value} (hO : Objs O β X w) (hl : Looks O look) (hx : AR O β X w x vx) (hy : AR O β X w y vy) (ha : actStore P T x y h look = some e) (hob : ∀ p ∈ e.obs, p) :
  ∃ w' β', (Instr.storeAt T vx vy).run P w = .ok () w' ∧ Done O β X w e undef β' w' := by
 unfold actStore at ha
 split at ha
 ·next n cs hn hcs =>
  have hc := cells_ok hcs hy
  split at ha
  ·next o off =>
   split at ha
   ·next old hlk =>
    split at ha
    ·next hcond =>
     obtain ⟨hcn, hfit, hall⟩ := hcond
     cases ha
     have hOn := hl.box hlk
     obtain ⟨b, cur, t, lo, hi, hβ, hb, hf, hsz, hr⟩ := hO.boxS hOn
     cases hx with
     | ptr o off v hC hone hv =>
      obtain rfl := hv b hβ
      have hcs2 := hc.size
      have hrun := storeVar_run (P := P) hn (v := vy) (o := off) (by omega) hb (by omega) (fun j _ => hf j) (hc.one_cells hall)
      have hlen : (vy.cells.toList).length = cs.length := by simpa using hcs2
      have hfit2 : off + vy.cells.toList.length ≤ cur.size := by omega
      have hw := hO.write (ob := .box (setAt old off cs)) (by rw [hOn]; simp) (by rw [hβ]; rfl) (setRow_evo w b (cur.toList.take off ++ vy.cells.toList ++ cur.toList.drop (off + vy.cells.toList.length)).toArray) (by simp) fun hs => by
       rw [hβ]
       refine .box _ b _ t lo hi (setRow_heap w b cur _ t _ hb) ?_ ?_ fun j x hj => ?_
       ·exact hf
       ·simp only [List.size_toArray, List.length_append, List.length_take, List.length_drop, Array.length_toList]
        rw [setAt_length (by omega)]
        simp at hlen
        omega
       ·rw [getD_setAt' hfit2 hlen]
        rw [setAt_get (by omega)] at hj
        split
        ·next hin =>
         rw [if_pos hin] at hj
         have := hs.rav (hc.at_ _ _ hj)
         simpa using this
        ·next hin =>
         rw [if_neg hin] at hj
         exact hs.rav (hr j x hj)
      exact ⟨_, _, hrun, Done.of_one hw (.dead _)⟩
    ·cases ha
   ·cases ha
  ·next o sz i off =>
   split at ha
   ·next szr es el ds hlk hds =>
    split at ha
    ·next hcond =>
     obtain ⟨hcn, hfit, hel, hn0, hall⟩ := hcond
     cases ha
     have e1 : szr = sz := hob _ (by simp)
     have e2 : es[i]? = some el := hob _ (by simp)
     subst e1
     have hcsd := allD_spec hds
     subst hcsd
     have hOn := hl.row hlk
     have hil := (List.getElem?_eq_some_iff.1 e2).1
     rcases hO.row hOn with ⟨hes, -⟩ | ⟨b, cur, t, lo, hi, hβ, hb, hf, hsz2, hlen, hr⟩
     ·subst hes; simp at e2
     ·cases hx with
      | rptr o sz i off v hC hone hv =>
       obtain ⟨-, rfl⟩ := hv _ _ _ _ hβ
       have hcs2 := hc.size
       simp only [List.length_map] at hcs2 hcn
       have hfit1 : i * szr + szr ≤ cur.size := by
        have : (i + 1) * szr ≤ es.length * szr := Nat.mul_le_mul_right _ hil
        rw [Nat.succ_mul] at this; omega
       have hdone : ∀ d ∈ ds, d.one = true := fun d hd => List.all_eq_true.1 hall d hd
       have hrun := storeVar_run (P := P) hn (v := vy) (o := i * szr + off) (by omega) hb (show i * szr + off + n ≤ cur.size by omega) hf.out
        (hc.one_cells (by simp only [List.all_map, List.all_eq_true]; exact hdone))
       have hlen2 : (vy.cells.toList).length = ds.length := by simpa using hcs2
       have hel2 := hsz2 el (List.mem_of_getElem? e2)
       obtain ⟨k1, k2, k3⟩ := setCells_ok (e := el) (off := off) (ds := ds) hel2.1 hel2.2 (by omega) (by omega) hdone
       have hfit2 : i * szr + off + vy.cells.toList.length ≤ cur.size := by omega
       have hw := hO.write (ob := .row szr (es.set i (el.setCells off ds))) (by rw [hOn]; simp) (by rw [hβ]; rfl) (setRow_evo w b (cur.toList.take (i * szr + off) ++ vy.cells.toList ++ cur.toList.drop (i * szr + off + vy.cells.toList.length)).toArray) (by simp) fun hs => by
        rw [hβ]
        have hsize : (cur.toList.take (i * szr + off) ++ vy.cells.toList ++ cur.toList.drop (i * szr + off + vy.cells.toList.length)).toArray.size = cur.size := by
         simp only [List.size_toArray, List.length_append, List.length_take, List.length_drop, Array.length_toList]
         simp at hlen2
         omega
        have hh := ObjRel.row (M := Mset X β) (β := β) (C := fun o' => upd O o (Ob.row szr (es.set i (el.setCells off ds))) o' ≠ Ob.none) szr (es.set i (el.setCells off ds)) b _ t lo hi (setRow_heap w b cur _ t _ hb)
         (by rw [hsize]; exact hf)
         (fun e he => by
          rcases List.mem_or_eq_of_mem_set he with h | h
          ·exact hsz2 e h
          ·subst h; exact ⟨k2, k3⟩)
         (by rw [hsize]; simpa using hlen)
         (fun i' j e d h1 h2 => by
          have hjs : j < szr := by
           have hm := List.mem_of_getElem? h1
           have hjl := (List.getElem?_eq_some_iff.1 h2).1
           rcases List.mem_or_eq_of_mem_set hm with h | h
           ·rw [(hsz2 e h).1] at hjl; exact hjl
           ·subst h; rw [k2] at hjl; exact hjl
          rw [getD_setAt' hfit2 hlen2]
          by_cases hii : i' = i
          ·subst hii
           rw [List.getElem?_set_self hil] at h1
           cases h1
           rw [k1, setAt_get (by omega)] at h2
           by_cases hin : off ≤ j ∧ j < off + ds.length
           ·rw [if_pos hin] at h2
            rw [if_pos (by omega)]
            have := (hc.at_ (j - off) (AV.d d) (by rw [List.getElem?_map, h2]; rfl)).d_inv
            rw [show i' * szr + j - (i' * szr + off) = j - off by omega]
            have h3 := hs.repd this
            simpa using h3
           ·rw [if_neg hin] at h2
            rw [if_neg (by omega)]
            exact hs.repd (hr i' j el d e2 h2)
          ·rw [List.getElem?_set_ne (Ne.symm hii)] at h1
           have hnot : ¬ (i * szr + off ≤ i' * szr + j ∧ i' * szr + j < i * szr + off + ds.length) := by
            intro hbad
            rcases Nat.lt_or_ge i' i with hlt | hge
            ·have : (i' + 1) * szr ≤ i * szr := Nat.mul_le_mul_right _ hlt
             rw [Nat.succ_mul] at this
             omega
            ·have : (i + 1) * szr ≤ i' * szr := Nat.mul_le_mul_right _ (by omega)
             rw [Nat.succ_mul] at this
             omega
           rw [if_neg hnot]
           exact hs.repd (hr i' j e d h1 h2))
        rw [List.length_set, hsize] at hh
        exact hh
       exact ⟨_, _, hrun, Done.of_one hw (.dead _)⟩
    ·cases ha
   ·next szr es ds hlk hds =>
    split at ha
    ·next hcond =>
     obtain ⟨hcn, hsz1, hn0, hall⟩ := hcond
     cases ha
     have e1 : szr = 1 := hob _ (by simp)
     have e2 : i = 0 := hob _ (by simp)
     have e3 : off = 0 := hob _ (by simp)
     have e4 : es.length = n := hob _ (by simp)
     subst e1 e2 e3 hsz1
     have hcsd := allD_spec hds
     subst hcsd
     have hOn := hl.row hlk
     rcases hO.row hOn with ⟨hes, -⟩ | ⟨b, cur, t, lo, hi, hβ, hb, hf, hsz2, hlen, hr⟩
     ·subst hes; simp at e4; omega
     ·cases hx with
      | rptr o sz i off v hC hone hv =>
       obtain ⟨-, rfl⟩ := hv _ _ _ _ hβ
       have hcs2 := hc.size
       simp only [List.length_map] at hcs2 hcn
       have hdone : ∀ d ∈ ds, d.one = true := fun d hd => List.all_eq_true.1 hall d hd
       have hrun := storeVar_run (P := P) hn (v := vy) (o := 0 * 1 + 0) (by omega) hb (show 0 * 1 + 0 + n ≤ cur.size by omega) hf.out
        (hc.one_cells (by simp only [List.all_map, List.all_eq_true]; exact hdone))
       have hlen2 : (vy.cells.toList).length = ds.length := by simpa using hcs2
       have hfit2 : 0 * 1 + 0 + vy.cells.toList.length ≤ cur.size := by omega
       have hw := hO.write (ob := .row 1 ds) (by rw [hOn]; simp) (by rw [hβ]; rfl) (setRow_evo w b (cur.toList.take (0 * 1 + 0) ++ vy.cells.toList ++ cur.toList.drop (0 * 1 + 0 + vy.cells.toList.length)).toArray) (by simp) fun hs => by
        rw [hβ]
        have hsize : (cur.toList.take (0 * 1 + 0) ++ vy.cells.toList ++ cur.toList.drop (0 * 1 + 0 + vy.cells.toList.length)).toArray.size = cur.size := by
         simp only [List.size_toArray, List.length_append, List.length_take, List.length_drop, Array.length_toList]
         simp at hlen2
         omega
        have hdc : ∀ d ∈ ds, d.cells = [d] := fun d hd => one_dcells (hdone d hd)
        have hh := ObjRel.row (M := Mset X β) (β := β) (C := fun o' => upd O o (Ob.row 1 ds) o' ≠ Ob.none) 1 ds b _ t lo hi (setRow_heap w b cur _ t _ hb)
         (by rw [hsize]; exact hf)
         (fun e he => by
          rw [hdc e he]
          exact ⟨rfl, fun d hd => by rw [List.mem_singleton] at hd; rw [hd]; exact hdone e he⟩)
         (by rw [hsize]; omega)
         (fun i' j e d h1 h2 => by
          have hm := List.mem_of_getElem? h1
          have hil := (List.getElem?_eq_some_iff.1 h1).1
          rw [hdc e hm] at h2
          cases j with
          | succ j => simp at h2
          | zero =>
           cases h2
           rw [getD_setAt' hfit2 hlen2, if_pos (by omega)]
           have := (hc.at_ i' (AV.d e) (by rw [List.getElem?_map, h1]; rfl)).d_inv
           rw [show i' * 1 + 0 - (0 * 1 + 0) = i' by omega]
           have h3 := hs.repd this
           simpa using h3)
        rw [hsize, show ds.length = es.length by omega] at hh
        exact hh
       exact ⟨_, _, hrun, Done.of_one hw (.dead _)⟩
    ·cases ha
   ·cases ha
  ·cases ha
 ·cases ha
end
end Sx
end Go.Proofs.YtalpfhpeaaocmaaGreat
end
