/-
laws 06: the iterator over pieces, by hand. Conditions: the slice lies in memory as its cells say.
-/
import Derived.RangeFuncNested
import Derived.RangeFuncBox
import Derived.RangeFuncBound
import Derived.RangeFuncCalls
import Derived.RangeFuncLeaves
import Derived.Shelf.Abstract
import Derived.Shelf.RegionOpen
import Derived.WalkKit
import Derived.OwnWalkIn
import Derived.TacticsInMore
import Derived.LoopNIn
import Derived.LoopIn
import Derived.Maps.AppendAt
import Derived.KernelRfl
import Derived.Test.YtfllhedkgeljaaaProg
set_option linter.unusedSimpArgs false
set_option linter.unusedVariables false
namespace Go.Proofs.Ytfllhedkgeljaaa.C06
open Go.RowKit Go.Shelf
attribute [local go_sem] Oper.semAt_some

abbrev ivV (y : Int × Int) : Value := .agg #[.int .i64 y.1, .int .i64 y.2]
set_option maxRecDepth 100000 in
set_option maxHeartbeats 1000000 in
theorem none31_in (F : Fence) (n : Nat) (h : F.fn 66) (hro : F.round = none) (y : Int × Int) (w : World) :
    CallsIn F n Try.prog 66 #[ivV y] w fun e w' => e = .returned (.bool (decide (y.2 ≤ y.1))) ∧ w' = w.alloc (.cells #[.int .i64 y.1, .int .i64 y.2] 80) := by
  refine callsIn_of_wp Try.func66 rfl h ?_ hro
  simp only [Try.ntmps66, List.size_toArray, List.length_cons, List.length_nil, Nat.reduceAdd, Nat.reduceSub, Array.replicate_succ, Array.replicate_zero, List.push_toArray, List.append_toArray, List.nil_append, List.cons_append]
  gi_wp2
  go_ret
  exact ⟨rfl, rfl⟩
theorem cell_alloc_k {W : World} {a : Addr} {v : Value} (o : Obj) (h : W.cell? a = some v) : (W.alloc o).cell? a = some v := cell_kept h (World.grownBy_alloc W o none) (fun r e => by cases e)
set_option maxRecDepth 100000 in
theorem index71_0 (a b c d : Value) (w : World) : (Instr.index 125 (.agg #[a, b, c, d]) (.int .i64 0)).run Try.prog w = .ok (.agg #[a, b]) w := by
  rfl
set_option maxRecDepth 100000 in
theorem index71_1 (a b c d : Value) (w : World) : (Instr.index 125 (.agg #[a, b, c, d]) (.int .i64 1)).run Try.prog w = .ok (.agg #[c, d]) w := by
  rfl
attribute [local go_sem high] index71_0 index71_1
/-- The cells below `n`, but for block `b5`, lie as they lay. -/
structure KG (n b5 : Nat) (W W' : World) : Prop where
  size : W.heap.size ≤ W'.heap.size
  cell : ∀ a v, a.block < n → a.block ≠ b5 → W.cell? a = some v → W'.cell? a = some v
theorem KG.refl (n b5 : Nat) (W : World) : KG n b5 W W := ⟨Nat.le_refl _, fun _ _ _ _ h => h⟩
theorem KG.trans {n b5 : Nat} {A B C : World} (h : KG n b5 A B) (k : KG n b5 B C) : KG n b5 A C := ⟨Nat.le_trans h.size k.size, fun a v h1 h2 h3 => k.cell a v h1 h2 (h.cell a v h1 h2 h3)⟩
theorem KG.alloc {n b5 : Nat} {A B : World} (h : KG n b5 A B) (o : Obj) : KG n b5 A (B.alloc o) :=
  ⟨by have := h.size; simp; omega, fun a v h1 h2 h3 => (cell_alloc_k o (h.cell a v h1 h2 h3))⟩
/-- The pieces of one interval, of many. -/
def pc1 (x y : Int × Int) : List (Int × Int) := [(y.1, min y.2 x.1), (max y.1 x.2, y.2)].filter (fun p => !decide (p.2 ≤ p.1))
def pcs (x : Int × Int) (l : List (Int × Int)) : List (Int × Int) := l.flatMap (pc1 x)
theorem pcs_snoc (x : Int × Int) (l : List (Int × Int)) (y : Int × Int) : pcs x (l ++ [y]) = pcs x l ++ pc1 x y := by simp [pcs]
/-- The first `m` pieces of an interval. -/
def pcm (x y : Int × Int) (m : Nat) : List (Int × Int) := ([(y.1, min y.2 x.1), (max y.1 x.2, y.2)].take m).filter (fun p => !decide (p.2 ≤ p.1))
theorem pcm_two (x y : Int × Int) : pcm x y 2 = pc1 x y := rfl
theorem pcm_len (x y : Int × Int) (m : Nat) : (pcm x y m).length ≤ m := by
  unfold pcm
  refine Nat.le_trans (List.length_filter_le _ _) ?_
  rw [List.length_take]
  omega
theorem pcs_len (x : Int × Int) (l : List (Int × Int)) : (pcs x l).length ≤ 2 * l.length := by
  induction l with
  | nil => simp [pcs]
  | cons y l ih =>
    have h1 : pcs x (y :: l) = pc1 x y ++ pcs x l := by simp [pcs]
    have h2 := pcm_len x y 2
    rw [pcm_two] at h2
    rw [h1, List.length_append, List.length_cons]
    omega
set_option maxRecDepth 100000 in
set_option maxHeartbeats 8000000 in
theorem pieces1_in (F : Fence) (n : Nat) (h : F.fn 86) (h31 : F.fn 66) (hro : F.round = none) (hn : 2 ≤ n) (l Bs Bx b off cap N1 b5 : Nat) (x : Int × Int) (zs : List (Int × Int)) (hlen : zs.length < 1000000000) (J Jx : List (Int × Int) → World → Prop)
    (W : World) (hJ : AbidesFrom W.heap.size J) (hJx : AbidesFrom W.heap.size Jx)
    (hY : ∀ pre y W1, J pre W1 → pre.length < 2 * zs.length → YieldAt F (n - 1) Try.prog l #[ivV y] W1 fun e W' =>
      (e = .returned (.bool true) ∧ J (pre ++ [y]) W' ∧ KG N1 b5 W1 W') ∨ (e = .returned (.bool false) ∧ Jx (pre ++ [y]) W'))
    (hs1 : Bs < N1 ∧ Bs ≠ b5) (hs2 : Bx < N1 ∧ Bx ≠ b5) (hs3 : b < N1 ∧ b ≠ b5) (hN : N1 ≤ W.heap.size)
    (hBs : W.cell? ⟨Bs, 0, none⟩ = some (.slice (some ⟨b, off, none⟩) zs.length cap)) (hx1 : W.cell? ⟨Bx, 0, none⟩ = some (.int .i64 x.1)) (hx2 : W.cell? ⟨Bx, 1, none⟩ = some (.int .i64 x.2))
    (hc1 : ∀ j y, zs[j]? = some y → W.cell? ⟨b, off + j * 2, none⟩ = some (.int .i64 y.1)) (hc2 : ∀ j y, zs[j]? = some y → W.cell? ⟨b, off + j * 2 + 1, none⟩ = some (.int .i64 y.2)) (h0 : J [] W) :
    CallsIn F n Try.prog 86 #[.func (.yield l) #[] #[], .pointer (some ⟨Bs, 0, none⟩), .pointer (some ⟨Bx, 0, none⟩)] W fun e W' => (∃ v, e = .returned v) ∧
      ((∃ ys, ys = pcs x zs ∧ J ys W') ∨ (∃ pre, True ∧ Jx pre W')) := by
  have h1n : 1 ≤ n := by omega
  have jal : ∀ {s : List (Int × Int)} {A : World} {o : Obj}, J s A → J s (A.alloc o) := fun {s A o} hs => hJ s A _ none hs (World.grownBy_alloc A o none) (fun r e => by cases e)
  refine callsIn_of_wp Try.func86 rfl h ?_ hro
  simp only [Try.ntmps86, List.size_toArray, List.length_cons, List.length_nil, Nat.reduceAdd, Nat.reduceSub, Array.replicate_succ, Array.replicate_zero, List.push_toArray, List.append_toArray, List.nil_append, List.cons_append]
  gi_wp2
  gi_loopw [10] (fun i wr => ∃ k : Nat, k ≤ zs.length ∧ i = .int .i64 k ∧ J (pcs x (zs.take k)) wr ∧ KG N1 b5 W wr)
    (fun i _ => zs.length - (intOf i).toNat)
  case atStart => exact ⟨0, Nat.zero_le _, rfl, h0, KG.refl _ _ _⟩
  case round =>
    obtain ⟨k, hk, rfl, hJs, hK⟩ := hrel
    by_cases hlt : k < zs.length
    · obtain ⟨y, hy⟩ : ∃ y, zs[k]? = some y := ⟨_, List.getElem?_eq_getElem hlt⟩
      have hca := hK.cell _ _ hs3.1 hs3.2 (hc1 k y hy)
      have hcb := hK.cell _ _ hs3.1 hs3.2 (hc2 k y hy)
      have hxa := hK.cell _ _ hs2.1 hs2.2 hx1
      have hxb := hK.cell _ _ hs2.1 hs2.2 hx2
      have hBlt : Bx < wr.heap.size := by have := hK.size; omega
      have hpk := pcs_len x (zs.take k)
      have htk : (zs.take k).length = k := by rw [List.length_take]; omega
      have hsn : zs.take (k + 1) = zs.take k ++ [y] := by rw [List.take_add_one, hy]; rfl
      rcases Int.lt_or_le x.1 y.2 with hA | hA <;> rcases Int.lt_or_le y.1 x.2 with hB | hB
      · -- hA : x.1 < y.2, hB : y.1 < x.2
        have eL0 : (pcm x y 0) = [] := rfl
        have eL1 : (pcm x y 1) = (pcm x y 0) ++ (if x.1 ≤ y.1 then [] else [(y.1, x.1)]) := by unfold pcm; rw [show min y.2 x.1 = x.1 by omega]; by_cases g : x.1 ≤ y.1 <;> simp [g]
        have eL2 : (pcm x y 2) = (pcm x y 1) ++ (if y.2 ≤ x.2 then [] else [(x.2, y.2)]) := by unfold pcm; rw [show max y.1 x.2 = x.2 by omega]; by_cases g : y.2 ≤ x.2 <;> simp [g, List.filter_cons] <;> split <;> simp
        gi_wp2
        gi_loopw [31] (fun i wr2 => ∃ m : Nat, m ≤ 2 ∧ i = .int .i64 m ∧ J (pcs x (zs.take k) ++ pcm x y m) wr2 ∧ KG N1 b5 W wr2) (fun i _ => 2 - (intOf i).toNat)
        case atStart => exact ⟨0, by omega, rfl, by rw [eL0, List.append_nil]; exact jal hJs, hK.alloc _⟩
        case round =>
          obtain ⟨m, hm, rfl, hJ2, hK2⟩ := hrel
          have hpl := pcm_len x y m
          rcases (by omega : m = 0 ∨ m = 1 ∨ m = 2) with rfl | rfl | rfl
          · -- piece 0
            by_cases hno : x.1 ≤ y.1
            · gi_wp2_with (gi_at_call 66; refine (none31_in F (n - 1) h31 hro (y.1, x.1) _).mono ?_; rintro e w' ⟨rfl, rfl⟩)
              refine ⟨fun _ h => (by cases h), ?_⟩
              gi_wp2
              go_roundw
              case rel => exact ⟨1, by omega, by simp, by rw [eL1, if_pos hno, List.append_nil]; exact jal (jal hJ2), (hK2.alloc _).alloc _⟩
              case measure => simp [intOf]
            · obtain ⟨fn, tmps, assign, body, hy2, hR⟩ := hY _ (y.1, x.1) _ (jal (o := .cells #[.int .i64 (y.1), .int .i64 (x.1)] 80) (jal (o := .cells #[.int .i64 (y.1), .int .i64 (x.1)] 80) hJ2)) (by rw [List.length_append]; omega)
              gi_wp2_with (gi_at_call 66; refine (none31_in F (n - 1) h31 hro (y.1, x.1) _).mono ?_; rintro e w' ⟨rfl, rfl⟩)
              refine hR.mono ?_
              rintro e W3 (⟨rfl, hJ3, hk3⟩ | ⟨rfl, hJx3⟩)
              · gi_wp2
                go_roundw
                case rel => exact ⟨1, by omega, by simp, by rw [eL1, if_neg (by omega), ← List.append_assoc]; exact hJ3, ((hK2.alloc _).alloc _).trans hk3⟩
                case measure => simp [intOf]
              · gi_wp2
                refine bodyPost_ret (results_none rfl _ _ _) rfl ?_
                exact ⟨⟨_, rfl⟩, .inr ⟨_, trivial, hJx3⟩⟩
                all_goals (exfalso; rename_i hq; simp at hq; omega)
          · -- piece 1
            by_cases hno : y.2 ≤ x.2
            · gi_wp2_with (gi_at_call 66; refine (none31_in F (n - 1) h31 hro (x.2, y.2) _).mono ?_; rintro e w' ⟨rfl, rfl⟩)
              refine ⟨fun _ h => (by cases h), ?_⟩
              gi_wp2
              go_roundw
              case rel => exact ⟨2, by omega, by simp, by rw [eL2, if_pos hno, List.append_nil]; exact jal (jal hJ2), (hK2.alloc _).alloc _⟩
              case measure => simp [intOf]
            · obtain ⟨fn, tmps, assign, body, hy2, hR⟩ := hY _ (x.2, y.2) _ (jal (o := .cells #[.int .i64 (x.2), .int .i64 (y.2)] 80) (jal (o := .cells #[.int .i64 (x.2), .int .i64 (y.2)] 80) hJ2)) (by rw [List.length_append]; omega)
              gi_wp2_with (gi_at_call 66; refine (none31_in F (n - 1) h31 hro (x.2, y.2) _).mono ?_; rintro e w' ⟨rfl, rfl⟩)
              refine hR.mono ?_
              rintro e W3 (⟨rfl, hJ3, hk3⟩ | ⟨rfl, hJx3⟩)
              · gi_wp2
                go_roundw
                case rel => exact ⟨2, by omega, by simp, by rw [eL2, if_neg (by omega), ← List.append_assoc]; exact hJ3, ((hK2.alloc _).alloc _).trans hk3⟩
                case measure => simp [intOf]
              · gi_wp2
                refine bodyPost_ret (results_none rfl _ _ _) rfl ?_
                exact ⟨⟨_, rfl⟩, .inr ⟨_, trivial, hJx3⟩⟩
                all_goals (exfalso; rename_i hq; simp at hq; omega)
          · gi_wp2
            go_roundw
            case rel => exact ⟨k + 1, by omega, by simp, by rw [hsn, pcs_snoc, ← pcm_two]; exact hJ2, hK2⟩
            case measure => simp [intOf]; omega
      · -- hA : x.1 < y.2, hB : x.2 ≤ y.1
        have eL0 : (pcm x y 0) = [] := rfl
        have eL1 : (pcm x y 1) = (pcm x y 0) ++ (if x.1 ≤ y.1 then [] else [(y.1, x.1)]) := by unfold pcm; rw [show min y.2 x.1 = x.1 by omega]; by_cases g : x.1 ≤ y.1 <;> simp [g]
        have eL2 : (pcm x y 2) = (pcm x y 1) ++ (if y.2 ≤ y.1 then [] else [(y.1, y.2)]) := by unfold pcm; rw [show max y.1 x.2 = y.1 by omega]; by_cases g : y.2 ≤ y.1 <;> simp [g, List.filter_cons] <;> split <;> simp
        gi_wp2
        gi_loopw [31] (fun i wr2 => ∃ m : Nat, m ≤ 2 ∧ i = .int .i64 m ∧ J (pcs x (zs.take k) ++ pcm x y m) wr2 ∧ KG N1 b5 W wr2) (fun i _ => 2 - (intOf i).toNat)
        case atStart => exact ⟨0, by omega, rfl, by rw [eL0, List.append_nil]; exact jal hJs, hK.alloc _⟩
        case round =>
          obtain ⟨m, hm, rfl, hJ2, hK2⟩ := hrel
          have hpl := pcm_len x y m
          rcases (by omega : m = 0 ∨ m = 1 ∨ m = 2) with rfl | rfl | rfl
          · -- piece 0
            by_cases hno : x.1 ≤ y.1
            · gi_wp2_with (gi_at_call 66; refine (none31_in F (n - 1) h31 hro (y.1, x.1) _).mono ?_; rintro e w' ⟨rfl, rfl⟩)
              refine ⟨fun _ h => (by cases h), ?_⟩
              gi_wp2
              go_roundw
              case rel => exact ⟨1, by omega, by simp, by rw [eL1, if_pos hno, List.append_nil]; exact jal (jal hJ2), (hK2.alloc _).alloc _⟩
              case measure => simp [intOf]
            · obtain ⟨fn, tmps, assign, body, hy2, hR⟩ := hY _ (y.1, x.1) _ (jal (o := .cells #[.int .i64 (y.1), .int .i64 (x.1)] 80) (jal (o := .cells #[.int .i64 (y.1), .int .i64 (x.1)] 80) hJ2)) (by rw [List.length_append]; omega)
              gi_wp2_with (gi_at_call 66; refine (none31_in F (n - 1) h31 hro (y.1, x.1) _).mono ?_; rintro e w' ⟨rfl, rfl⟩)
              refine hR.mono ?_
              rintro e W3 (⟨rfl, hJ3, hk3⟩ | ⟨rfl, hJx3⟩)
              · gi_wp2
                go_roundw
                case rel => exact ⟨1, by omega, by simp, by rw [eL1, if_neg (by omega), ← List.append_assoc]; exact hJ3, ((hK2.alloc _).alloc _).trans hk3⟩
                case measure => simp [intOf]
              · gi_wp2
                refine bodyPost_ret (results_none rfl _ _ _) rfl ?_
                exact ⟨⟨_, rfl⟩, .inr ⟨_, trivial, hJx3⟩⟩
                all_goals (exfalso; rename_i hq; simp at hq; omega)
          · -- piece 1
            by_cases hno : y.2 ≤ y.1
            · gi_wp2_with (gi_at_call 66; refine (none31_in F (n - 1) h31 hro (y.1, y.2) _).mono ?_; rintro e w' ⟨rfl, rfl⟩)
              refine ⟨fun _ h => (by cases h), ?_⟩
              gi_wp2
              go_roundw
              case rel => exact ⟨2, by omega, by simp, by rw [eL2, if_pos hno, List.append_nil]; exact jal (jal hJ2), (hK2.alloc _).alloc _⟩
              case measure => simp [intOf]
            · obtain ⟨fn, tmps, assign, body, hy2, hR⟩ := hY _ (y.1, y.2) _ (jal (o := .cells #[.int .i64 (y.1), .int .i64 (y.2)] 80) (jal (o := .cells #[.int .i64 (y.1), .int .i64 (y.2)] 80) hJ2)) (by rw [List.length_append]; omega)
              gi_wp2_with (gi_at_call 66; refine (none31_in F (n - 1) h31 hro (y.1, y.2) _).mono ?_; rintro e w' ⟨rfl, rfl⟩)
              refine hR.mono ?_
              rintro e W3 (⟨rfl, hJ3, hk3⟩ | ⟨rfl, hJx3⟩)
              · gi_wp2
                go_roundw
                case rel => exact ⟨2, by omega, by simp, by rw [eL2, if_neg (by omega), ← List.append_assoc]; exact hJ3, ((hK2.alloc _).alloc _).trans hk3⟩
                case measure => simp [intOf]
              · gi_wp2
                refine bodyPost_ret (results_none rfl _ _ _) rfl ?_
                exact ⟨⟨_, rfl⟩, .inr ⟨_, trivial, hJx3⟩⟩
                all_goals (exfalso; rename_i hq; simp at hq; omega)
          · gi_wp2
            go_roundw
            case rel => exact ⟨k + 1, by omega, by simp, by rw [hsn, pcs_snoc, ← pcm_two]; exact hJ2, hK2⟩
            case measure => simp [intOf]; omega
      · -- hA : y.2 ≤ x.1, hB : y.1 < x.2
        have eL0 : (pcm x y 0) = [] := rfl
        have eL1 : (pcm x y 1) = (pcm x y 0) ++ (if y.2 ≤ y.1 then [] else [(y.1, y.2)]) := by unfold pcm; rw [show min y.2 x.1 = y.2 by omega]; by_cases g : y.2 ≤ y.1 <;> simp [g]
        have eL2 : (pcm x y 2) = (pcm x y 1) ++ (if y.2 ≤ x.2 then [] else [(x.2, y.2)]) := by unfold pcm; rw [show max y.1 x.2 = x.2 by omega]; by_cases g : y.2 ≤ x.2 <;> simp [g, List.filter_cons] <;> split <;> simp
        gi_wp2
        gi_loopw [31] (fun i wr2 => ∃ m : Nat, m ≤ 2 ∧ i = .int .i64 m ∧ J (pcs x (zs.take k) ++ pcm x y m) wr2 ∧ KG N1 b5 W wr2) (fun i _ => 2 - (intOf i).toNat)
        case atStart => exact ⟨0, by omega, rfl, by rw [eL0, List.append_nil]; exact jal hJs, hK.alloc _⟩
        case round =>
          obtain ⟨m, hm, rfl, hJ2, hK2⟩ := hrel
          have hpl := pcm_len x y m
          rcases (by omega : m = 0 ∨ m = 1 ∨ m = 2) with rfl | rfl | rfl
          · -- piece 0
            by_cases hno : y.2 ≤ y.1
            · gi_wp2_with (gi_at_call 66; refine (none31_in F (n - 1) h31 hro (y.1, y.2) _).mono ?_; rintro e w' ⟨rfl, rfl⟩)
              refine ⟨fun _ h => (by cases h), ?_⟩
              gi_wp2
              go_roundw
              case rel => exact ⟨1, by omega, by simp, by rw [eL1, if_pos hno, List.append_nil]; exact jal (jal hJ2), (hK2.alloc _).alloc _⟩
              case measure => simp [intOf]
            · obtain ⟨fn, tmps, assign, body, hy2, hR⟩ := hY _ (y.1, y.2) _ (jal (o := .cells #[.int .i64 (y.1), .int .i64 (y.2)] 80) (jal (o := .cells #[.int .i64 (y.1), .int .i64 (y.2)] 80) hJ2)) (by rw [List.length_append]; omega)
              gi_wp2_with (gi_at_call 66; refine (none31_in F (n - 1) h31 hro (y.1, y.2) _).mono ?_; rintro e w' ⟨rfl, rfl⟩)
              refine hR.mono ?_
              rintro e W3 (⟨rfl, hJ3, hk3⟩ | ⟨rfl, hJx3⟩)
              · gi_wp2
                go_roundw
                case rel => exact ⟨1, by omega, by simp, by rw [eL1, if_neg (by omega), ← List.append_assoc]; exact hJ3, ((hK2.alloc _).alloc _).trans hk3⟩
                case measure => simp [intOf]
              · gi_wp2
                refine bodyPost_ret (results_none rfl _ _ _) rfl ?_
                exact ⟨⟨_, rfl⟩, .inr ⟨_, trivial, hJx3⟩⟩
                all_goals (exfalso; rename_i hq; simp at hq; omega)
          · -- piece 1
            by_cases hno : y.2 ≤ x.2
            · gi_wp2_with (gi_at_call 66; refine (none31_in F (n - 1) h31 hro (x.2, y.2) _).mono ?_; rintro e w' ⟨rfl, rfl⟩)
              refine ⟨fun _ h => (by cases h), ?_⟩
              gi_wp2
              go_roundw
              case rel => exact ⟨2, by omega, by simp, by rw [eL2, if_pos hno, List.append_nil]; exact jal (jal hJ2), (hK2.alloc _).alloc _⟩
              case measure => simp [intOf]
            · obtain ⟨fn, tmps, assign, body, hy2, hR⟩ := hY _ (x.2, y.2) _ (jal (o := .cells #[.int .i64 (x.2), .int .i64 (y.2)] 80) (jal (o := .cells #[.int .i64 (x.2), .int .i64 (y.2)] 80) hJ2)) (by rw [List.length_append]; omega)
              gi_wp2_with (gi_at_call 66; refine (none31_in F (n - 1) h31 hro (x.2, y.2) _).mono ?_; rintro e w' ⟨rfl, rfl⟩)
              refine hR.mono ?_
              rintro e W3 (⟨rfl, hJ3, hk3⟩ | ⟨rfl, hJx3⟩)
              · gi_wp2
                go_roundw
                case rel => exact ⟨2, by omega, by simp, by rw [eL2, if_neg (by omega), ← List.append_assoc]; exact hJ3, ((hK2.alloc _).alloc _).trans hk3⟩
                case measure => simp [intOf]
              · gi_wp2
                refine bodyPost_ret (results_none rfl _ _ _) rfl ?_
                exact ⟨⟨_, rfl⟩, .inr ⟨_, trivial, hJx3⟩⟩
                all_goals (exfalso; rename_i hq; simp at hq; omega)
          · gi_wp2
            go_roundw
            case rel => exact ⟨k + 1, by omega, by simp, by rw [hsn, pcs_snoc, ← pcm_two]; exact hJ2, hK2⟩
            case measure => simp [intOf]; omega
      · -- hA : y.2 ≤ x.1, hB : x.2 ≤ y.1
        have eL0 : (pcm x y 0) = [] := rfl
        have eL1 : (pcm x y 1) = (pcm x y 0) ++ (if y.2 ≤ y.1 then [] else [(y.1, y.2)]) := by unfold pcm; rw [show min y.2 x.1 = y.2 by omega]; by_cases g : y.2 ≤ y.1 <;> simp [g]
        have eL2 : (pcm x y 2) = (pcm x y 1) ++ (if y.2 ≤ y.1 then [] else [(y.1, y.2)]) := by unfold pcm; rw [show max y.1 x.2 = y.1 by omega]; by_cases g : y.2 ≤ y.1 <;> simp [g, List.filter_cons] <;> split <;> simp
        gi_wp2
        gi_loopw [31] (fun i wr2 => ∃ m : Nat, m ≤ 2 ∧ i = .int .i64 m ∧ J (pcs x (zs.take k) ++ pcm x y m) wr2 ∧ KG N1 b5 W wr2) (fun i _ => 2 - (intOf i).toNat)
        case atStart => exact ⟨0, by omega, rfl, by rw [eL0, List.append_nil]; exact jal hJs, hK.alloc _⟩
        case round =>
          obtain ⟨m, hm, rfl, hJ2, hK2⟩ := hrel
          have hpl := pcm_len x y m
          rcases (by omega : m = 0 ∨ m = 1 ∨ m = 2) with rfl | rfl | rfl
          · -- piece 0
            by_cases hno : y.2 ≤ y.1
            · gi_wp2_with (gi_at_call 66; refine (none31_in F (n - 1) h31 hro (y.1, y.2) _).mono ?_; rintro e w' ⟨rfl, rfl⟩)
              refine ⟨fun _ h => (by cases h), ?_⟩
              gi_wp2
              go_roundw
              case rel => exact ⟨1, by omega, by simp, by rw [eL1, if_pos hno, List.append_nil]; exact jal (jal hJ2), (hK2.alloc _).alloc _⟩
              case measure => simp [intOf]
            · obtain ⟨fn, tmps, assign, body, hy2, hR⟩ := hY _ (y.1, y.2) _ (jal (o := .cells #[.int .i64 (y.1), .int .i64 (y.2)] 80) (jal (o := .cells #[.int .i64 (y.1), .int .i64 (y.2)] 80) hJ2)) (by rw [List.length_append]; omega)
              gi_wp2_with (gi_at_call 66; refine (none31_in F (n - 1) h31 hro (y.1, y.2) _).mono ?_; rintro e w' ⟨rfl, rfl⟩)
              refine hR.mono ?_
              rintro e W3 (⟨rfl, hJ3, hk3⟩ | ⟨rfl, hJx3⟩)
              · gi_wp2
                go_roundw
                case rel => exact ⟨1, by omega, by simp, by rw [eL1, if_neg (by omega), ← List.append_assoc]; exact hJ3, ((hK2.alloc _).alloc _).trans hk3⟩
                case measure => simp [intOf]
              · gi_wp2
                refine bodyPost_ret (results_none rfl _ _ _) rfl ?_
                exact ⟨⟨_, rfl⟩, .inr ⟨_, trivial, hJx3⟩⟩
                all_goals (exfalso; rename_i hq; simp at hq; omega)
          · -- piece 1
            by_cases hno : y.2 ≤ y.1
            · gi_wp2_with (gi_at_call 66; refine (none31_in F (n - 1) h31 hro (y.1, y.2) _).mono ?_; rintro e w' ⟨rfl, rfl⟩)
              refine ⟨fun _ h => (by cases h), ?_⟩
              gi_wp2
              go_roundw
              case rel => exact ⟨2, by omega, by simp, by rw [eL2, if_pos hno, List.append_nil]; exact jal (jal hJ2), (hK2.alloc _).alloc _⟩
              case measure => simp [intOf]
            · obtain ⟨fn, tmps, assign, body, hy2, hR⟩ := hY _ (y.1, y.2) _ (jal (o := .cells #[.int .i64 (y.1), .int .i64 (y.2)] 80) (jal (o := .cells #[.int .i64 (y.1), .int .i64 (y.2)] 80) hJ2)) (by rw [List.length_append]; omega)
              gi_wp2_with (gi_at_call 66; refine (none31_in F (n - 1) h31 hro (y.1, y.2) _).mono ?_; rintro e w' ⟨rfl, rfl⟩)
              refine hR.mono ?_
              rintro e W3 (⟨rfl, hJ3, hk3⟩ | ⟨rfl, hJx3⟩)
              · gi_wp2
                go_roundw
                case rel => exact ⟨2, by omega, by simp, by rw [eL2, if_neg (by omega), ← List.append_assoc]; exact hJ3, ((hK2.alloc _).alloc _).trans hk3⟩
                case measure => simp [intOf]
              · gi_wp2
                refine bodyPost_ret (results_none rfl _ _ _) rfl ?_
                exact ⟨⟨_, rfl⟩, .inr ⟨_, trivial, hJx3⟩⟩
                all_goals (exfalso; rename_i hq; simp at hq; omega)
          · gi_wp2
            go_roundw
            case rel => exact ⟨k + 1, by omega, by simp, by rw [hsn, pcs_snoc, ← pcm_two]; exact hJ2, hK2⟩
            case measure => simp [intOf]; omega
    · obtain rfl : k = zs.length := by omega
      gi_wp2
      go_end0
      rw [List.take_length] at hJs
      exact ⟨⟨_, rfl⟩, .inl ⟨_, rfl, hJs⟩⟩
end Go.Proofs.Ytfllhedkgeljaaa.C06
