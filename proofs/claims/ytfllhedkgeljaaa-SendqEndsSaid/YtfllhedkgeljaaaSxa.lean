/-
Plain data, abstract values, and what it means that a value in memory stands for them.
No condition; nothing of a program.
-/
import Derived.WalkKit
import Derived.WalkLawsBesides
import Derived.KernelRfl
set_option linter.unusedSimpArgs false
set_option linter.unusedVariables false
namespace Go.Proofs.Ytfllhedkgeljaaa
namespace Sx
open Go.RowKit

/-- Plain data: what a value reads as. A struct or an array is the list of its cells; a slice is the list of its elements. -/
inductive D where
  | int (k : IntKind) (n : Int)
  | bool (b : Bool)
  | str (s : List UInt8)
  | agg (cs : List D)
  | sl (es : List D)
  deriving Inhabited

def D.cells : D → List D
  | .agg cs => cs
  | d => [d]
/-- One cell of memory holds it. -/
def D.one : D → Bool
  | .agg _ => false
  | _ => true

/-- The value `v` reads as `d` in world `w`; of blocks in `M` (those that may still be written) nothing is said. -/
inductive RepD (w : World) (M : Nat → Prop) : D → Value → Prop
  | int (k : IntKind) (n : Int) : RepD w M (.int k n) (.int k n)
  | bool (b : Bool) : RepD w M (.bool b) (.bool b)
  | str (s : List UInt8) : RepD w M (.str s) (.string ⟨s.toArray⟩)
  | agg (cs : List D) (vs : Array Value) (hl : vs.size = cs.length) (ho : ∀ d ∈ cs, d.one = true) (h : ∀ j d, cs[j]? = some d → RepD w M d (vs.getD j undef)) : RepD w M (.agg cs) (.agg vs)
  | nil (a : Option Addr) (c : Nat) : RepD w M (.sl []) (.slice a 0 c)
  | sl (es : List D) (a : Addr) (c sz : Nat) (f : Nat → Nat → Value) (hn : es.length ≤ c) (hb : a.block < w.heap.size) (hM : ¬ M a.block)
      (hsz : ∀ e ∈ es, e.cells.length = sz ∧ ∀ d ∈ e.cells, d.one = true)
      (hc : ∀ i j, i < es.length → j < sz → w.cell? (a.add (i * sz + j)) = some (f i j))
      (hr : ∀ i j e d, es[i]? = some e → e.cells[j]? = some d → RepD w M d (f i j)) : RepD w M (.sl es) (.slice (some a) es.length c)

/-- Between two worlds only blocks in `T`, and new ones, may have turned. -/
structure Evo (T : Nat → Prop) (w w' : World) : Prop where
  os : w'.os = w.os
  tape : w'.tape = w.tape
  output : w'.output = w.output
  size : w.heap.size ≤ w'.heap.size
  block : ∀ b, b < w.heap.size → ¬ T b → w'.heap[b]? = w.heap[b]?

theorem Evo.refl (T : Nat → Prop) (w : World) : Evo T w w := ⟨rfl, rfl, rfl, Nat.le_refl _, fun _ _ _ => rfl⟩
theorem Evo.trans {T T' : Nat → Prop} {a b c : World} (h : Evo T a b) (k : Evo T' b c) (hT : ∀ x, T' x → T x ∨ a.heap.size ≤ x) : Evo T a c :=
  ⟨k.os.trans h.os, k.tape.trans h.tape, k.output.trans h.output, Nat.le_trans h.size k.size, fun x hx hn =>
    (k.block x (Nat.lt_of_lt_of_le hx h.size) (fun ht => (hT x ht).elim hn (fun hge => by omega))).trans (h.block x hx hn)⟩
theorem Evo.weaken {T T' : Nat → Prop} {a b : World} (h : Evo T a b) (hT : ∀ x, T x → T' x) : Evo T' a b :=
  ⟨h.os, h.tape, h.output, h.size, fun x hx hn => h.block x hx (fun ht => hn (hT x ht))⟩
theorem Evo.drew {T : Nat → Prop} {a b : World} (h : Evo T a b) : Evo T a b.drew := ⟨h.os, h.tape, h.output, h.size, h.block⟩
theorem Evo.alloc {T : Nat → Prop} {a b : World} (h : Evo T a b) (o : Obj) : Evo T a (b.alloc o) :=
  ⟨h.os, h.tape, h.output, by have := h.size; simp; omega, fun x hx hn => by rw [Below.heap_alloc _ _ _ (Nat.lt_of_lt_of_le hx h.size)]; exact h.block x hx hn⟩
theorem Evo.cell {T : Nat → Prop} {w w' : World} (h : Evo T w w') {p : Addr} {v : Value} (hp : ¬ T p.block) (hv : w.cell? p = some v) : w'.cell? p = some v := by
  have hb := World.block_lt_of_cell? _ _ hv
  rw [World.cell?_of_block (w := w) (h.block _ hb hp)]
  exact hv

theorem block_add (a : Addr) (n : Nat) : (a.add n).block = a.block := by unfold Addr.add; split <;> rfl
theorem add_add (a : Addr) (i j : Nat) : (a.add i).add j = a.add (i + j) := by
  unfold Addr.add
  by_cases hi : i = 0 <;> by_cases hj : j = 0 <;> simp [hi, hj, Nat.add_assoc]
theorem add_mk (b o n : Nat) : (Addr.mk b o none).add n = ⟨b, o + n, none⟩ := by
  unfold Addr.add
  split
  · next h => subst h; rfl
  · rfl

theorem RepD.mono {w w' : World} {M M' T : Nat → Prop} {d : D} {v : Value} (h : RepD w M d v) (he : Evo T w w') (hT : ∀ b, T b → M b)
    (hM : ∀ b, M' b → M b ∨ w.heap.size ≤ b) : RepD w' M' d v := by
  induction h with
  | int k n => exact .int k n
  | bool b => exact .bool b
  | str s => exact .str s
  | agg cs vs hl ho _ ih => exact .agg cs vs hl ho ih
  | nil a c => exact .nil a c
  | sl es a c sz f hn hb hnM hsz hc hr ih =>
    refine .sl es a c sz f hn (Nat.lt_of_lt_of_le hb he.size) ?_ hsz (fun i j hi hj => ?_) ih
    · intro hm
      rcases hM _ hm with h1 | h1
      · exact hnM h1
      · omega
    · exact he.cell (by rw [block_add]; exact fun ht => hnM (hT _ ht)) (hc i j hi hj)

/-- Abstract values. `ptr`, `rptr`, `own`, `sub` name an object of the call's own; `eptr` leads into plain data. -/
inductive AV where
  | d (d : D)
  | raw (v : Value)
  | ptr (o off : Nat)
  | rptr (o sz i off : Nat)
  | eptr (e : D) (off : Nat)
  | own (o sz : Nat)
  | sub (o sz lo n : Nat)
  | agg (cs : List AV)
  | tup (vs : List AV)
  | fn (f : FuncId) (cap : List AV)
  | meth (f : FuncId) (first : List AV)
  | dead
  deriving Inhabited

/-- An object: not yet there, gone, cells, or a row of plain elements of `sz` cells each. -/
inductive Ob where
  | none
  | gone
  | box (cs : List AV)
  | row (sz : Nat) (es : List D)
  deriving Inhabited

/-- Where an object lies: a block, or (an empty row) nowhere. `cnt`: how many cells the block has. -/
inductive HE where
  | gone
  | box (b : Nat)
  | row (sz len : Nat) (g : Option (Nat × Nat))
  deriving Inhabited
def HE.blk : HE → Option Nat
  | .gone => none
  | .box b => some b
  | .row _ _ g => g.map (·.1)

/-- The slice value of the elements from `lo` on, `n` of them. -/
def OwnV (g : Option (Nat × Nat)) (sz lo n : Nat) (v : Value) : Prop :=
  ∃ (a : Option Addr) (c : Nat), v = .slice a n c ∧ n ≤ c ∧ (0 < c → ∃ b cnt, g = some (b, cnt) ∧ a = some ⟨b, lo * sz, Option.none⟩ ∧ (lo + c) * sz ≤ cnt)

/-- From element `lo` on there is room for all the elements that the row has. -/
def CapV (lo len : Nat) (v : Value) : Prop := ∀ a n c, v = .slice a n c → len ≤ lo + c

inductive RAV (w : World) (M : Nat → Prop) (β : Nat → HE) (C : Nat → Prop) : AV → Value → Prop
  | d (d : D) (v : Value) (h : RepD w M d v) : RAV w M β C (.d d) v
  | raw (v : Value) : RAV w M β C (.raw v) v
  | ptr (o off : Nat) (v : Value) (ho : C o) (h1 : v.oneCell' = true) (h : ∀ b, β o = .box b → v = .pointer (some ⟨b, off, Option.none⟩)) : RAV w M β C (.ptr o off) v
  | rptr (o sz i off : Nat) (v : Value) (ho : C o) (h1 : v.oneCell' = true) (h : ∀ sz' len b n, β o = .row sz' len (some (b, n)) → sz' = sz ∧ v = .pointer (some ⟨b, i * sz + off, Option.none⟩)) : RAV w M β C (.rptr o sz i off) v
  | eptr (e : D) (off : Nat) (p : Addr) (f : Nat → Value) (hb : p.block < w.heap.size) (hM : ¬ M p.block) (ho : ∀ d ∈ e.cells, d.one = true)
      (hc : ∀ j d, e.cells[off + j]? = some d → w.cell? (p.add j) = some (f j))
      (hr : ∀ j d, e.cells[off + j]? = some d → RepD w M d (f j)) : RAV w M β C (.eptr e off) (.pointer (some p))
  | own (o sz : Nat) (v : Value) (ho : C o) (h1 : v.oneCell' = true) (h : ∀ sz' len g, β o = .row sz' len g → sz' = sz ∧ OwnV g sz 0 len v) : RAV w M β C (.own o sz) v
  | sub (o sz lo n : Nat) (v : Value) (ho : C o) (h1 : v.oneCell' = true) (h : ∀ sz' len g, β o = .row sz' len g → sz' = sz ∧ (lo + n ≤ len ∧ CapV lo len v) ∧ OwnV g sz lo n v) : RAV w M β C (.sub o sz lo n) v
  | agg (cs : List AV) (vs : Array Value) (hl : vs.size = cs.length) (h : ∀ j x, cs[j]? = some x → RAV w M β C x (vs.getD j undef)) : RAV w M β C (.agg cs) (.agg vs)
  | tup (cs : List AV) (vs : Array Value) (hl : vs.size = cs.length) (h : ∀ j x, cs[j]? = some x → RAV w M β C x (vs.getD j undef)) : RAV w M β C (.tup cs) (.tuple vs)
  | fn (f : FuncId) (cs : List AV) (vs : Array Value) (hl : vs.size = cs.length) (h : ∀ j x, cs[j]? = some x → RAV w M β C x (vs.getD j undef)) :
      RAV w M β C (.fn f cs) (.func (.func f) #[] vs)
  | meth (f : FuncId) (cs : List AV) (vs : Array Value) (hl : vs.size = cs.length) (h : ∀ j x, cs[j]? = some x → RAV w M β C x (vs.getD j undef)) :
      RAV w M β C (.meth f cs) (.func (.func f) vs #[])
  | dead (v : Value) : RAV w M β C .dead v

theorem RAV.mono {w w' : World} {M M' T : Nat → Prop} {β β' : Nat → HE} {C C' : Nat → Prop} {x : AV} {v : Value} (h : RAV w M β C x v) (he : Evo T w w') (hT : ∀ b, T b → M b)
    (hM : ∀ b, M' b → M b ∨ w.heap.size ≤ b) (hC : ∀ o, C o → C' o ∧ (β' o = β o ∨ β' o = .gone)) : RAV w' M' β' C' x v := by
  induction h with
  | d d v h => exact .d d v (h.mono he hT hM)
  | raw v => exact .raw v
  | ptr o off v ho hone h =>
    refine .ptr o off v (hC o ho).1 hone fun b hb => ?_
    rcases (hC o ho).2 with h1 | h1
    · exact h b (h1 ▸ hb)
    · rw [h1] at hb; cases hb
  | rptr o sz i off v ho hone h =>
    refine .rptr o sz i off v (hC o ho).1 hone fun sz' len b n hb => ?_
    rcases (hC o ho).2 with h1 | h1
    · exact h sz' len b n (h1 ▸ hb)
    · rw [h1] at hb; cases hb
  | eptr e off p f hb hnM ho hc hr =>
    refine .eptr e off p f (Nat.lt_of_lt_of_le hb he.size) ?_ ho (fun j d hj => ?_) (fun j d hj => (hr j d hj).mono he hT hM)
    · intro hm
      rcases hM _ hm with h1 | h1
      · exact hnM h1
      · omega
    · exact he.cell (by rw [block_add]; exact fun ht => hnM (hT _ ht)) (hc j d hj)
  | own o sz v ho hone h =>
    refine .own o sz v (hC o ho).1 hone fun sz' len g hb => ?_
    rcases (hC o ho).2 with h1 | h1
    · exact h sz' len g (h1 ▸ hb)
    · rw [h1] at hb; cases hb
  | sub o sz lo n v ho hone h =>
    refine .sub o sz lo n v (hC o ho).1 hone fun sz' len g hb => ?_
    rcases (hC o ho).2 with h1 | h1
    · exact h sz' len g (h1 ▸ hb)
    · rw [h1] at hb; cases hb
  | agg cs vs hl _ ih => exact .agg cs vs hl ih
  | tup cs vs hl _ ih => exact .tup cs vs hl ih
  | fn f cs vs hl _ ih => exact .fn f cs vs hl ih
  | meth f cs vs hl _ ih => exact .meth f cs vs hl ih
  | dead v => exact .dead v

/-- No cell of it is barred from being written. -/
def Fz (lo hi n : Nat) : Prop := lo = hi ∨ n ≤ lo
theorem Fz.out {lo hi n : Nat} (h : Fz lo hi n) : ∀ j, j < n → ¬ (lo ≤ j ∧ j < hi) := by
  intro j hj
  unfold Fz at h
  omega

inductive ObjRel (w : World) (M : Nat → Prop) (β : Nat → HE) (C : Nat → Prop) : Ob → HE → Prop
  | none : ObjRel w M β C .none .gone
  | gone : ObjRel w M β C .gone .gone
  | box (cs : List AV) (b : Nat) (cur : Array Value) (t : TypeId) (lo hi : Nat) (hb : w.heap[b]? = some (.cells cur t (lo, hi))) (hf : ∀ j, ¬ (lo ≤ j ∧ j < hi))
      (hl : cur.size = cs.length) (h : ∀ j x, cs[j]? = some x → RAV w M β C x (cur.getD j undef)) : ObjRel w M β C (.box cs) (.box b)
  | rowN (sz : Nat) : ObjRel w M β C (.row sz []) (.row sz 0 Option.none)
  | row (sz : Nat) (es : List D) (b : Nat) (cur : Array Value) (t : TypeId) (lo hi : Nat) (hb : w.heap[b]? = some (.cells cur t (lo, hi))) (hf : Fz lo hi cur.size)
      (hsz : ∀ e ∈ es, e.cells.length = sz ∧ ∀ d ∈ e.cells, d.one = true) (hl : es.length * sz ≤ cur.size)
      (hr : ∀ i j e d, es[i]? = some e → e.cells[j]? = some d → RepD w M d (cur.getD (i * sz + j) undef)) : ObjRel w M β C (.row sz es) (.row sz es.length (some (b, cur.size)))

theorem ObjRel.mono {w w' : World} {M M' T : Nat → Prop} {β β' : Nat → HE} {C C' : Nat → Prop} {x : Ob} {g : HE} (h : ObjRel w M β C x g) (he : Evo T w w') (hT : ∀ b, T b → M b)
    (hM : ∀ b, M' b → M b ∨ w.heap.size ≤ b) (hC : ∀ o, C o → C' o ∧ (β' o = β o ∨ β' o = .gone)) (hsame : ∀ b, g.blk = some b → w'.heap[b]? = w.heap[b]?) : ObjRel w' M' β' C' x g := by
  cases h with
  | none => exact .none
  | gone => exact .gone
  | box cs b cur t lo hi hb hf hl h => exact .box cs b cur t lo hi ((hsame b rfl).trans hb) hf hl fun j x hj => (h j x hj).mono he hT hM hC
  | rowN sz => exact .rowN sz
  | row sz es b cur t lo hi hb hf hsz hl hr => exact .row sz es b cur t lo hi ((hsame b rfl).trans hb) hf hsz hl fun i j e d h1 h2 => (hr i j e d h1 h2).mono he hT hM

/-- The abstract state: slots, objects; how many slots there are. -/
structure AS where
  E : Nat → AV
  O : Nat → Ob
  nt : Nat

def Tset (β : Nat → HE) (b : Nat) : Prop := ∃ o, (β o).blk = some b
def Mset (X : Nat → Prop) (β : Nat → HE) (b : Nat) : Prop := X b ∨ Tset β b
def AS.C (S : AS) (o : Nat) : Prop := S.O o ≠ .none

/-- The objects of a state, in memory. -/
structure Objs (O : Nat → Ob) (β : Nat → HE) (X : Nat → Prop) (w : World) : Prop where
  rel : ∀ o, ObjRel w (Mset X β) β (fun o => O o ≠ .none) (O o) (β o)
  inj : ∀ o o' b, (β o).blk = some b → (β o').blk = some b → o = o'
  priv : ∀ o b, (β o).blk = some b → ¬ X b
  xlt : ∀ b, X b → b < w.heap.size

structure Rel (S : AS) (β : Nat → HE) (X : Nat → Prop) (a : Act) (w : World) : Prop where
  size : a.tmps.size = S.nt
  defers : a.defers = []
  slots : ∀ t, RAV w (Mset X β) β (fun o => S.O o ≠ .none) (S.E t) (a.tmps.getD t undef)
  objs : Objs S.O β X w

theorem ObjRel.lt {w : World} {M : Nat → Prop} {β : Nat → HE} {C : Nat → Prop} {x : Ob} {g : HE} (h : ObjRel w M β C x g) {b : Nat} (hb : g.blk = some b) : b < w.heap.size := by
  have key : ∀ {b : Nat} {o : Obj}, w.heap[b]? = some o → b < w.heap.size := fun {b o} h => (Array.getElem?_eq_some_iff.1 h).1
  cases h with
  | none => cases hb
  | gone => cases hb
  | rowN => cases hb
  | box cs b' cur t lo hi h1 => injection hb with e; exact e ▸ key h1
  | row sz es b' cur t lo hi h1 => injection hb with e; exact e ▸ key h1

theorem Objs.tlt {O : Nat → Ob} {β : Nat → HE} {X : Nat → Prop} {w : World} (h : Objs O β X w) {b : Nat} (hb : Tset β b) : b < w.heap.size := by
  obtain ⟨o, ho⟩ := hb
  exact (h.rel o).lt ho

/-- What an operation may have done. -/
structure Step (O O' : Nat → Ob) (β β' : Nat → HE) (w w' : World) : Prop where
  evo : Evo (Tset β) w w'
  keep : ∀ o, O o ≠ .none → O' o ≠ .none ∧ (β' o = β o ∨ β' o = .gone)
  new : ∀ b, Tset β' b → Tset β b ∨ w.heap.size ≤ b

theorem Step.refl (O : Nat → Ob) (β : Nat → HE) (w : World) : Step O O β β w w := ⟨Evo.refl _ _, fun _ h => ⟨h, .inl rfl⟩, fun _ h => .inl h⟩
theorem Step.mset {O O' : Nat → Ob} {β β' : Nat → HE} {w w' : World} (h : Step O O' β β' w w') (X : Nat → Prop) : ∀ b, Mset X β' b → Mset X β b ∨ w.heap.size ≤ b := by
  rintro b (hx | ht)
  · exact .inl (.inl hx)
  · rcases h.new b ht with h1 | h1
    · exact .inl (.inr h1)
    · exact .inr h1
theorem Step.rav {O O' : Nat → Ob} {β β' : Nat → HE} {w w' : World} (h : Step O O' β β' w w') {X : Nat → Prop} {x : AV} {v : Value}
    (hx : RAV w (Mset X β) β (fun o => O o ≠ .none) x v) : RAV w' (Mset X β') β' (fun o => O' o ≠ .none) x v :=
  hx.mono h.evo (fun _ hb => .inr hb) (h.mset X) h.keep
theorem Step.repd {O O' : Nat → Ob} {β β' : Nat → HE} {w w' : World} (h : Step O O' β β' w w') {X : Nat → Prop} {x : D} {v : Value}
    (hx : RepD w (Mset X β) x v) : RepD w' (Mset X β') x v :=
  hx.mono h.evo (fun _ hb => .inr hb) (h.mset X)
theorem Step.trans {O O' O'' : Nat → Ob} {β β' β'' : Nat → HE} {w w' w'' : World} (h : Step O O' β β' w w') (k : Step O' O'' β' β'' w' w'') : Step O O'' β β'' w w'' where
  evo := h.evo.trans k.evo h.new
  keep := fun o ho => by
    obtain ⟨h1, h2⟩ := h.keep o ho
    obtain ⟨k1, k2⟩ := k.keep o h1
    refine ⟨k1, ?_⟩
    rcases k2 with k2 | k2
    · rcases h2 with h2 | h2
      · exact .inl (k2.trans h2)
      · exact .inr (k2.trans h2)
    · exact .inr k2
  new := fun b hb => by
    rcases k.new b hb with h1 | h1
    · exact h.new b h1
    · exact .inr (Nat.le_trans h.evo.size h1)

def upd {α : Type} (f : Nat → α) (n : Nat) (v : α) : Nat → α := fun m => if m = n then v else f m
theorem upd_same {α : Type} (f : Nat → α) (n : Nat) (v : α) : upd f n v n = v := by simp [upd]
theorem upd_other {α : Type} (f : Nat → α) {n m : Nat} (v : α) (h : m ≠ n) : upd f n v m = f m := by simp [upd, h]
end Sx
end Go.Proofs.Ytfllhedkgeljaaa
