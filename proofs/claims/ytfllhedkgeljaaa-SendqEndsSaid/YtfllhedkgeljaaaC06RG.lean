/-
laws 06: Cut, by hand, where it cuts. Conditions: the slice lies in memory as its cells say; what its callees answer.
-/
import Derived.Test.YtfllhedkgeljaaaC06RF
set_option linter.unusedSimpArgs false
set_option linter.unusedVariables false
namespace Go.Proofs.Ytfllhedkgeljaaa.C06
open Go.RowKit Go.Shelf
attribute [local go_sem] Oper.semAt_some

set_option maxRecDepth 100000 in
set_option maxHeartbeats 1000000 in
theorem pieces37_in (F : Fence) (n : Nat) (h : F.fn 76) (hro : F.round = none) (a : Option Addr) (len cap : Nat) (x : Int × Int) (w : World) :
    CallsIn F n Try.prog 76 #[.slice a len cap, ivV x] w fun e w' => e = .returned (.func (.func 86) #[] #[.pointer (some ⟨w.heap.size, 0, none⟩), .pointer (some ⟨w.heap.size + 1, 0, none⟩)]) ∧
      w' = (w.alloc (.cells #[.slice a len cap] 31)).alloc (.cells #[.int .i64 x.1, .int .i64 x.2] 80) := by
  refine callsIn_of_wp Try.func76 rfl h ?_ hro
  simp only [Try.ntmps76, List.size_toArray, List.length_cons, List.length_nil, Nat.reduceAdd, Nat.reduceSub, Array.replicate_succ, Array.replicate_zero, List.push_toArray, List.append_toArray, List.nil_append, List.cons_append]
  gi_wp2
  go_ret
  exact ⟨rfl, rfl⟩
set_option maxRecDepth 100000 in
set_option maxHeartbeats 1000000 in
theorem pieces1_nil (F : Fence) (n : Nat) (h : F.fn 86) (hro : F.round = none) (l Bs Bx cap : Nat) (a : Option Addr) (J : List (Int × Int) → World → Prop) (W : World)
    (hBs : W.cell? ⟨Bs, 0, none⟩ = some (.slice a 0 cap)) (h0 : J [] W) :
    CallsIn F n Try.prog 86 #[.func (.yield l) #[] #[], .pointer (some ⟨Bs, 0, none⟩), .pointer (some ⟨Bx, 0, none⟩)] W fun e W' => (∃ v, e = .returned v) ∧ J [] W' := by
  refine callsIn_of_wp Try.func86 rfl h ?_ hro
  simp only [Try.ntmps86, List.size_toArray, List.length_cons, List.length_nil, Nat.reduceAdd, Nat.reduceSub, Array.replicate_succ, Array.replicate_zero, List.push_toArray, List.append_toArray, List.nil_append, List.cons_append]
  gi_wp2
  gi_loopw [10] (fun i wr => i = .int .i64 0 ∧ J [] wr) (fun _ _ => 0)
  case atStart => exact ⟨rfl, h0⟩
  case round =>
    obtain ⟨rfl, hJs⟩ := hrel
    gi_wp2
    go_end0
    exact ⟨⟨_, rfl⟩, hJs⟩
/-- The slice value holds the intervals, in a block below `n`, not `b5`; or there are none. -/
def IvsIn (n b5 : Nat) (W : World) (sv : Value) (zs : List (Int × Int)) : Prop :=
  (∃ a c, sv = .slice a 0 c ∧ zs = []) ∨ ∃ b off cap, sv = .slice (some ⟨b, off, none⟩) zs.length cap ∧ (b < n ∧ b ≠ b5) ∧
    (∀ j y, zs[j]? = some y → W.cell? ⟨b, off + j * 2, none⟩ = some (.int .i64 y.1)) ∧ (∀ j y, zs[j]? = some y → W.cell? ⟨b, off + j * 2 + 1, none⟩ = some (.int .i64 y.2))
theorem IvsIn.kept {n b5 n' : Nat} {A B : World} {sv : Value} {zs : List (Int × Int)} (h : IvsIn n b5 A sv zs) (hk : ∀ a v, a.block < n → a.block ≠ b5 → A.cell? a = some v → B.cell? a = some v) (hn : n ≤ n') : IvsIn n' b5 B sv zs := by
  rcases h with h | ⟨b, off, cap, h1, h2, h3, h4⟩
  · exact .inl h
  · exact .inr ⟨b, off, cap, h1, ⟨by omega, h2.2⟩, fun j y hy => hk _ _ h2.1 h2.2 (h3 j y hy), fun j y hy => hk _ _ h2.1 h2.2 (h4 j y hy)⟩
theorem pieces_stops (F : Fence) (n : Nat) (h : F.fn 86) (h31 : F.fn 66) (hro : F.round = none) (hn : 2 ≤ n) (Bs Bx N1 b5 : Nat) (x : Int × Int) (sv : Value) (zs : List (Int × Int)) (hlen : zs.length < 1000000000) (w : World)
    (hs1 : Bs < N1 ∧ Bs ≠ b5) (hs2 : Bx < N1 ∧ Bx ≠ b5) (hN : N1 = w.heap.size)
    (hBs : w.cell? ⟨Bs, 0, none⟩ = some sv) (hx1 : w.cell? ⟨Bx, 0, none⟩ = some (.int .i64 x.1)) (hx2 : w.cell? ⟨Bx, 1, none⟩ = some (.int .i64 x.2)) (hI : IvsIn N1 b5 w sv zs) :
    SeqStopsK F n Try.prog 86 #[.pointer (some ⟨Bs, 0, none⟩), .pointer (some ⟨Bx, 0, none⟩)] (fun y : Int × Int => #[ivV y]) (KG N1 b5) (fun ys => ys = pcs x zs) (fun _ => True) (2 * zs.length) w := fun l J Jx W hW hJ hJx hY h0 => by
  subst hN
  have hc : ∀ a v, a.block < w.heap.size → w.cell? a = some v → W.cell? a = some v := fun a v h1 h2 => (hW.cell (p := a) h1).trans h2
  rcases hI with ⟨a, c, rfl, rfl⟩ | ⟨b, off, cap, rfl, hb, hc1, hc2⟩
  · exact (pieces1_nil F n h hro l Bs Bx c a J W (hc _ _ hs1.1 hBs) h0).mono fun e W' ⟨he, hj⟩ => ⟨he, .inl ⟨_, rfl, hj⟩⟩
  · exact pieces1_in F n h h31 hro hn l Bs Bx b off cap w.heap.size b5 x zs hlen J Jx W hJ hJx hY hs1 hs2 hb hW.size (hc _ _ hs1.1 hBs) (hc _ _ hs2.1 hx1) (hc _ _ hs2.1 hx2) (fun j y hy => hc _ _ hb.1 (hc1 j y hy)) (fun j y hy => hc _ _ hb.1 (hc2 j y hy)) h0
theorem Below.cellv {n : Nat} {A B : World} (h : Below n A B) {a : Addr} {v : Value} (ha : a.block < n) (hv : A.cell? a = some v) : B.cell? a = some v := (h.cell (p := a) ha).trans hv
theorem cell2a (w : World) (a b : Value) (t : TypeId) : (w.alloc (.cells #[a, b] t)).cell? ⟨w.heap.size, 0, none⟩ = some a := by
  unfold World.cell?
  rw [World.alloc_heap_new w _]
  rfl
theorem cell2b (w : World) (a b : Value) (t : TypeId) : (w.alloc (.cells #[a, b] t)).cell? ⟨w.heap.size, 1, none⟩ = some b := by
  unfold World.cell?
  rw [World.alloc_heap_new w _]
  rfl
def ivsV (l : List (Int × Int)) : List Value := l.flatMap fun y => [.int .i64 y.1, .int .i64 y.2]
theorem ivsV_len (l : List (Int × Int)) : (ivsV l).length = l.length * 2 := by
  induction l with
  | nil => rfl
  | cons y l ih =>
    have : ivsV (y :: l) = [.int .i64 y.1, .int .i64 y.2] ++ ivsV l := by simp [ivsV]
    rw [this, List.length_append, ih, List.length_cons]
    simp
    omega
theorem KG.put {n b5 : Nat} (W : World) (l : Nat) {o : Obj} (o' : Obj) (hl : W.heap[l]? = some o) (ho : o.isCells = false) : KG n b5 W (W.putObj l o') :=
  ⟨by simp, fun a v _ _ h => cell_kept h (grownBy_putObj' W l o') (fun r e => by cases e; exact ⟨o, hl, ho⟩)⟩
theorem ownsRow_base {W : World} {b b' e n : Nat} {size : Nat} {v : Value} {xs : List Value} (h : W.ownsRow b e size v n xs) (hb : b' ≤ b) : W.ownsRow b' e size v n xs := by
  refine ⟨h.1, ?_⟩
  rcases h.2 with h2 | ⟨g, cap, cur, h3, h4, h5⟩
  · exact .inl h2
  · exact .inr ⟨g, cap, cur, h3, Nat.le_trans hb h4, h5⟩
theorem info29 : (Try.prog.info? 80).map (fun i => (i.zero, i.size, i.bytes)) = some (some (.agg #[.int .i64 0, .int .i64 0]), 2, 16) := by kernel_rfl
theorem cell_two_new (w : World) (x y : Value) (t : TypeId) : ∀ j u, [x, y][j]? = some u → (w.alloc (.cells #[x, y] t)).cell? ((⟨w.heap.size, 0, none⟩ : Addr).add j) = some u := by
  intro j u hj
  match j, hj with
  | 0, hj => simp at hj; subst hj; exact cell2a w x y t
  | 1, hj => simp at hj; subst hj; exact cell2b w x y t
theorem ivsV_snoc (l : List (Int × Int)) (y : Int × Int) : ivsV (l ++ [y]) = ivsV l ++ [.int .i64 y.1, .int .i64 y.2] := by simp [ivsV]
theorem app_kg {W w1 : World} {N1 B : Nat} {t e : TypeId} {size : Nat} {v v' : Value} {k m : Nat} {xs ys : List Value} {tmp : Obj}
    (hv : Boxed W B t v) (hte : t ≠ e) (hrow : W.ownsRow N1 e size v k xs) (hN : N1 ≤ W.heap.size) (hBN : B ≤ N1)
    (hown' : w1.ownsRow N1 e size v' m ys) (hgrow : (W.alloc tmp).grownBy w1 v.ownBlock) :
    Boxed w1 B t v ∧ Boxed (w1.setCell ⟨B, 0, none⟩ v') B t v' ∧ (w1.setCell ⟨B, 0, none⟩ v').ownsRow N1 e size v' m ys ∧ KeepsOthers W (w1.setCell ⟨B, 0, none⟩ v') ∧ KG N1 B W (w1.setCell ⟨B, 0, none⟩ v') ∧ Below B W (w1.setCell ⟨B, 0, none⟩ v') := by
  have hBs := hv.lt
  obtain ⟨q1, q2, q3, q4, q5⟩ := Boxed.appended (n₀ := B) hv hte (ownsRow_base hrow hBN) (by omega) (Nat.le_refl _) (ownsRow_base hown' hBN) hgrow
  refine ⟨q1, q2, hown'.kept (grownBy_setCell' w1 B v') (.inr (q1.not_row hte hown').symm), q4, ⟨q5.size, fun a u h1 h2 h3 => ?_⟩, q5⟩
  have hb1 : Below N1 W w1 := ((Below.refl N1 W).alloc hN tmp).grown hgrow (by simp; omega) fun j ej => by
    rcases hrow.2 with ⟨rfl, _⟩ | ⟨g, cap, cur, rfl, hb, _, _⟩
    · simp [Value.ownBlock] at ej
    · obtain rfl : g = j := by simpa [Value.ownBlock] using ej
      exact hb
  have h4 : w1.cell? a = some u := Below.cellv hb1 h1 h3
  unfold World.cell? at h4 ⊢
  rw [Below.heap_setCell w1 ⟨B, 0, none⟩ v' a.block h2]
  exact h4
set_option maxRecDepth 100000 in
set_option maxHeartbeats 4000000 in
theorem Cut_in (F : Fence) (n : Nat) (h : F.fn 49) (h19 : F.fn 67) (h30 : F.fn 65) (h31 : F.fn 66) (h37 : F.fn 76) (h46 : F.fn 86) (hro : F.round = none) (hn : 5 ≤ n) (a : Option Addr) (len cap : Nat) (x : Int × Int) (hx : x.1 < x.2) (zs : List (Int × Int)) (hlen : zs.length < 1000000) (w : World)
    (hmay : ∀ W, CallsIn F (n - 1) Try.prog 65 #[ivV x] W fun e W' => e = .returned (.bool true) ∧ Below W.heap.size W W')
    (hchk : ∀ W, Below w.heap.size w W → CallsIn F (n - 1) Try.prog 67 #[.slice a len cap] W fun e W' => e = .returned (.int .i64 0) ∧ Below W.heap.size W W')
    (hI : IvsIn w.heap.size w.heap.size w (.slice a len cap) zs) :
    CallsIn F n Try.prog 49 #[.slice a len cap, ivV x] w fun e W' => ∃ v, e = .returned v ∧ W'.ownsRow w.heap.size 80 2 v (pcs x zs).length (ivsV (pcs x zs)) ∧ Below w.heap.size w W' := by
  have h1 : 1 ≤ n := by omega
  obtain ⟨i0, hi, hz0, hz1, hz2⟩ := info_parts info29
  refine callsIn_of_wp_marks Try.func49 rfl h ?_ hro
  simp only [Try.ntmps49, List.size_toArray, List.length_cons, List.length_nil, Nat.reduceAdd, Nat.reduceSub, Array.replicate_succ, Array.replicate_zero, List.push_toArray, List.append_toArray, List.nil_append, List.cons_append]
  have hb0 : Below w.heap.size w (w.alloc (.cells #[.int .i64 x.1, .int .i64 x.2] 80)) := (Below.refl _ w).alloc (Nat.le_refl _) _
  gi_wp2_with (first
    | (gi_at_call 65; refine (hmay _).mono ?_; rintro e w1 ⟨rfl, hb1⟩; have ca1 := Below.cellv hb1 (a := ⟨w.heap.size, 0, none⟩) (by simp) (cell2a w _ _ 80); have ca2 := Below.cellv hb1 (a := ⟨w.heap.size, 1, none⟩) (by simp) (cell2b w _ _ 80); have hs1 := hb1.size; simp only [World.size_alloc] at hs1; have hlt1 : w.heap.size < w1.heap.size := by omega)
    | (gi_at_call 66; refine (none31_in F (n - 1) h31 hro x _).mono ?_; rintro e w' ⟨rfl, rfl⟩)
    | (gi_at_call 67; have hbA : Below w.heap.size w (w1.alloc (.cells #[.int .i64 x.1, .int .i64 x.2] 80)) := (hb0.trans (hb1.mono hb0.size)).alloc (by omega) _; refine (hchk _ hbA).mono ?_; rintro e w2 ⟨rfl, hb2⟩; have cb1 := Below.cellv hb2 (a := ⟨w.heap.size, 0, none⟩) (by simp; omega) (cell_alloc_k _ ca1); have cb2 := Below.cellv hb2 (a := ⟨w.heap.size, 1, none⟩) (by simp; omega) (cell_alloc_k _ ca2); have hs2 := hb2.size; simp only [World.size_alloc] at hs2; have hlt2 : w.heap.size < w2.heap.size := by omega)
    | (gi_at_call 76; refine (pieces37_in F (n - 1) h37 hro _ _ _ x _).mono ?_; rintro e w' ⟨rfl, rfl⟩))
  have bO := ((Boxed.new w2 31 (.slice none 0 0)).alloc (.cells #[.slice a len cap] 31)).alloc (.cells #[.int .i64 x.1, .int .i64 x.2] 80)
  have bS := ((Boxed.new (w2.alloc (.cells #[.slice none 0 0] 31)) 31 (.slice a len cap)).alloc (.cells #[.int .i64 x.1, .int .i64 x.2] 80)).cell
  have bX1 := cell2a ((w2.alloc (.cells #[.slice none 0 0] 31)).alloc (.cells #[.slice a len cap] 31)) (.int .i64 x.1) (.int .i64 x.2) 80
  have bX2 := cell2b ((w2.alloc (.cells #[.slice none 0 0] 31)).alloc (.cells #[.slice a len cap] 31)) (.int .i64 x.1) (.int .i64 x.2) 80
  simp only [World.size_alloc] at bS bX1 bX2
  have hBw : Below w.heap.size w w2 := hbA.trans (hb2.mono hbA.size)
  have hB0 : Below w.heap.size w (((w2.alloc (.cells #[.slice none 0 0] 31)).alloc (.cells #[.slice a len cap] 31)).alloc (.cells #[.int .i64 x.1, .int .i64 x.2] 80)) := ((hBw.alloc (by omega) _).alloc (by simp; omega) _).alloc (by simp; omega) _
  have hsz : (((w2.alloc (.cells #[.slice none 0 0] 31)).alloc (.cells #[.slice a len cap] 31)).alloc (.cells #[.int .i64 x.1, .int .i64 x.2] 80)).heap.size = w2.heap.size + 3 := by simp
  obtain ⟨W0, hW0⟩ : ∃ W0, ((w2.alloc (.cells #[.slice none 0 0] 31)).alloc (.cells #[.slice a len cap] 31)).alloc (.cells #[.int .i64 x.1, .int .i64 x.2] 80) = W0 := ⟨_, rfl⟩
  rw [hW0] at bO bS bX1 bX2 hB0 hsz ⊢
  clear hW0
  have hIW : IvsIn W0.heap.size w2.heap.size W0 (.slice a len cap) zs := by
    rcases hI with ⟨a', c', e, e2⟩ | ⟨b, off, cap', e, hb, h3, h4⟩
    · exact .inl ⟨a', c', e, e2⟩
    · exact .inr ⟨b, off, cap', e, ⟨by omega, by omega⟩, fun j y hy => Below.cellv hB0 hb.1 (h3 j y hy), fun j y hy => Below.cellv hB0 hb.1 (h4 j y hy)⟩
  refine wpIn_rangeFunc_ownH hro h1 (gf := 86) (lb := #[.pointer (some ⟨w2.heap.size + 1, 0, none⟩), .pointer (some ⟨w2.heap.size + 1 + 1, 0, none⟩)]) rfl h46 (enters_of Try.func86 (by kernel_rfl) rfl)
    (pieces_stops F (n - 1) h46 h31 hro (by omega) (w2.heap.size + 1) (w2.heap.size + 1 + 1) W0.heap.size w2.heap.size x (.slice a len cap) zs (by omega) W0 ⟨by omega, by omega⟩ ⟨by omega, by omega⟩ rfl bS bX1 bX2 hIW)
    (fun h k => KG.trans h k) (fun W l o o' h2 h3 h4 _ => KG.put _ _ o' h3 h4) (Below.refl _ _) (fun _ => rfl)
    (fun pre W => (∃ v, Boxed W w2.heap.size 31 v ∧ W.ownsRow W0.heap.size 80 2 v pre.length (ivsV pre) ∧ True) ∧ (Below w.heap.size w W ∧ W0.heap.size ≤ W.heap.size))
    (fun _ _ _ => False)
    (OwnFrom.and (Own.from (holdsRow_own W0.heap.size w2.heap.size 31 80 2 (fun pre : List (Int × Int) => pre.length) ivsV (fun _ _ => True)) _) (OwnFrom.and (ownFrom_below (Nat.le_refl _) (by omega)) (fun s X Y row hs hg hr => Nat.le_trans hs hg.size)))
    (fun _ _ _ _ _ hs _ _ => hs)
    ⟨⟨_, bO, World.ownsRow_nil _ _ _ _, trivial⟩, hB0, Nat.le_refl _⟩
    (fun y a' W => ∃ By, w2.heap.size < By ∧ W.heap[By]? = some (.cells #[.int .i64 y.1, .int .i64 y.2] 80 (0, 0)) ∧ a' = { tmps := #[.slice a len cap, ivV x, undef, .pointer (some ⟨w.heap.size, 0, none⟩), .slice none 0 0, .pointer (some ⟨w2.heap.size, 0, none⟩), .pointer (some ⟨By, 0, none⟩),
      .agg #[.int .i64 x.1, .int .i64 x.2], .bool true, .bool false, .bool false, .agg #[.int .i64 x.1, .int .i64 x.2], .bool (decide (x.2 ≤ x.1)), .bool (decide (x.2 ≤ x.1)), .bool (decide (x.2 ≤ x.1)), .slice a len cap, .int .i64 0, .bool false, .bool (decide (x.2 ≤ x.1)), undef, undef, .slice a len cap,
      .agg #[.int .i64 x.1, .int .i64 x.2], .func (.func 86) #[] #[.pointer (some ⟨w2.heap.size + 1, 0, none⟩), .pointer (some ⟨w2.heap.size + 1 + 1, 0, none⟩)], ivV y, undef, undef, undef, undef, undef], defers := [] })
    (fun y a' s X Y row hs hg hr => by
      obtain ⟨By, h1, h2, h3⟩ := hs
      refine ⟨By, h1, (hg.block By (Array.getElem?_eq_some_iff.1 h2).1 (fun e' => ?_)).trans h2, h3⟩
      obtain ⟨_, o, ho, hc⟩ := hr By e'.symm
      rw [h2] at ho; cases ho; cases hc)
    ?assign ?body ?done ?stop
  case assign =>
    rintro l pre y W K ⟨⟨v, bO1, hr1, -⟩, hB1, hS1⟩ hK
    gi_wp2
    refine hK _ _ ((KeepsOthers.alloc _ _).from _) ((KG.refl _ _ W).alloc _) ⟨⟨v, bO1.alloc _, hr1.alloc _, trivial⟩, hB1.alloc hB1.size _, by simp; omega⟩ ⟨W.heap.size, by omega, World.alloc_heap_new W _, rfl⟩
  case body =>
    rintro l pre y a' W hl ⟨r, hr⟩ ⟨⟨v, hv, hrow, -⟩, hB1, hS1⟩ ⟨By, hBy, bY, rfl⟩ hlt
    have hc := hv.cell
    have hy1 : W.cell? ⟨By, 0, none⟩ = some (.int .i64 y.1) := by unfold World.cell?; rw [bY]; rfl
    have hy2 : W.cell? ⟨By, 1, none⟩ = some (.int .i64 y.2) := by unfold World.cell?; rw [bY]; rfl
    have hfr := hv.frozen
    gi_wp2_with (gi_at_builtin; refine wpListIn_append_own _ rfl _ _ 31 rfl W0.heap.size 80 i0 (.agg #[.int .i64 0, .int .i64 0]) 2 16 Try.underlying31 hi hz0 hz1 hz2 rfl (by decide) _ _ _ rfl (hrow.alloc _) ⟨W.heap.size, 0, none⟩ 1 1 [.int .i64 y.1, .int .i64 y.2] rfl rfl (cell_two_new _ _ _ _) (by simp [Value.oneCell']) (by simp [maxLen]; omega) (by omega) (by simp; omega) ?_; intro v' w1 hown' hgrow _; obtain ⟨g', cap', rfl⟩ := ownsRow_succ hown'; obtain ⟨hv1, hv2, hr2, hk2, hkg, hb2'⟩ := app_kg hv (by decide) hrow hS1 (by omega) hown' hgrow; have hc1 := hv1.cell; have hf1 := hv1.frozen)
    exact ⟨hk2.from _, hkg, ⟨_, hv2, by rw [List.length_append, ivsV_snoc]; exact hr2, trivial⟩, hB1.trans (hb2'.mono (by omega)), Nat.le_trans hS1 hkg.size⟩
  case done =>
    rintro D ys W hD rfl ⟨⟨v, hv, hrow, -⟩, hB1, hS1⟩ hK
    have hc := hv.cell
    gi_wp2
    refine ⟨by simp, .inl ⟨_, _, rfl, run_takeDeferred hK, ?_⟩⟩
    exact ⟨_, results_tmp rfl _ _ _, v, rfl, ownsRow_putObj (ownsRow_base hrow (by omega)) _ hK rfl, hB1.trans (belowK_b (w := w) (Nat.le_refl _) W D _ _ (by omega) hK rfl rfl)⟩
  case stop =>
    rintro D c pre W _ _ h _
    exact h.elim
end Go.Proofs.Ytfllhedkgeljaaa.C06
