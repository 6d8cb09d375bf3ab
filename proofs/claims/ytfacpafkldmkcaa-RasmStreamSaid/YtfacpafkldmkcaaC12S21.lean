/-
laws 12: two pieces in either order. No condition beyond the statement's own.
-/
import Derived.Test.YtfacpafkldmkcaaC12S20
set_option linter.unusedSimpArgs false
set_option linter.unusedVariables false
namespace Go.Proofs.Ytfacpafkldmkcaa.C12
open Sx Go.RowKit

structure Act where
  a : Int
  n : Int
  r : Int
def actD (x : Act) : D := .agg [.int .u8 x.a, .int .u8 x.n, .int .u8 x.r]
def actB (x : Act) : Ob := .box [.d (.int .u8 x.a), .d (.int .u8 x.n), .d (.int .u8 x.r)]
structure Act.ok (x : Act) : Prop where
  a : 0 ≤ x.a ∧ x.a < 256
  n : 0 ≤ x.n ∧ x.n < 256
  r : 0 ≤ x.r ∧ x.r < 256
/-- The text: its bytes, and its row as far as it is laid. -/
def txB (m i : Nat) : UInt8 := UInt8.ofNat (i * m + i / 256)
def txL (m : Nat) : List UInt8 := (List.range 512).map (txB m)
def tR (m j : Nat) : List D := (List.range 512).map (fun i => if i < j then byteD (txB m i) else .int .u8 0)
theorem tR_len (m j : Nat) : (tR m j).length = 512 := by unfold tR; simp
theorem txL_len (m : Nat) : (txL m).length = 512 := by unfold txL; simp
theorem tR_end (m : Nat) : tR m 512 = (txL m).map byteD := by
  unfold tR txL
  rw [List.map_map]
  refine List.map_congr_left fun i hi => ?_
  rw [List.mem_range] at hi
  rw [if_pos hi]; rfl
theorem tR_get (m : Nat) {j : Nat} (hj : j < 512) : (tR m j)[j]? = some (.int .u8 0) := by
  unfold tR
  rw [List.getElem?_map, List.getElem?_range hj]
  simp
theorem tR_set (m : Nat) {j : Nat} (hj : j < 512) : (tR m j).set j (byteD (txB m j)) = tR m (j + 1) := by
  refine List.ext_getElem? fun i => ?_
  rw [List.getElem?_set]
  by_cases h : j = i
  · subst h
    rw [if_pos rfl, if_pos (by rw [tR_len]; exact hj)]
    unfold tR
    rw [List.getElem?_map, List.getElem?_range hj]
    simp
  · rw [if_neg h]
    unfold tR
    by_cases hi : i < 512
    · rw [List.getElem?_map, List.getElem?_map, List.getElem?_range hi]
      simp only [Option.map_some]
      have : (i < j) = (i < j + 1) := by rw [eq_iff_iff]; omega
      simp only [this]
    · rw [List.getElem?_eq_none_iff.2 (by simp; omega), List.getElem?_eq_none_iff.2 (by simp; omega)]
theorem txB_d {m : Nat} (hm : m < 10) {j : Nat} (hj : j < 512) : IntKind.u8.wrap (IntKind.i64.wrap (IntKind.i64.wrap ((j : Int) * m) + IntKind.i64.wrap ((j : Int).tdiv 256))) = ((txB m j).toNat : Int) := by
  have h0 : j * m ≤ 512 * 10 := Nat.mul_le_mul (by omega) (by omega)
  have h1 : ((j : Int) * m) = ((j * m : Nat) : Int) := by push_cast; rfl
  have h2 : ((j : Int).tdiv 256) = ((j / 256 : Nat) : Int) := by rw [Int.tdiv_eq_ediv_of_nonneg (by omega)]; omega
  rw [h1, h2, IntKind.wrap_i64, IntKind.wrap_i64, IntKind.wrap_i64, IntKind.wrap_u8]
  unfold txB
  rw [UInt8.toNat_ofNat']
  omega
/-- A piece of a text. -/
def pc (t : List UInt8) (a n : Int) : List UInt8 := (t.take (a + n).toNat).drop a.toNat
theorem pc_len {t : List UInt8} {a n : Int} (h0 : 0 ≤ a) (h1 : 0 ≤ n) (h : a + n ≤ t.length) : (pc t a n).length = n.toNat := by
  unfold pc
  rw [List.length_drop, List.length_take]
  omega
theorem pc_bA {t : List UInt8} {a n : Int} (h0 : 0 ≤ a) (h1 : 0 ≤ n) (h : a + n ≤ t.length) (k : Int) : bA ⟨a, pc t a n⟩ k = if a ≤ k ∧ k < a + n then bA ⟨0, t⟩ k else none := by
  unfold pc
  have h2 := bA_drop 0 (t.take (a + n).toNat) a.toNat k
  rw [show (0 : Int) + (a.toNat : Int) = a by omega, bA_take, show (0 : Int) + ((a + n).toNat : Int) = a + n by omega] at h2
  rw [h2]
  by_cases g1 : a ≤ k <;> by_cases g2 : k < a + n <;> simp [g1, g2]
theorem tR_zero (m : Nat) : tR m 0 = List.replicate 512 (.int .u8 0) := by
  refine List.eq_replicate_iff.2 ⟨tR_len m 0, fun y hy => ?_⟩
  obtain ⟨i, -, rfl⟩ := List.mem_map.1 hy
  rw [if_neg (by omega)]
/-! ### The pieces' overlay -/
/-- What stays of a piece. -/
def cvr (s : Rq) (k : Int) (d : List UInt8) (j : Int) : Option UInt8 := if rS s ≤ j ∧ j < rLim s then bA ⟨k, d⟩ j else none
theorem put_den {s : Rq} (h : Ok s) (k : Int) (h0 : 0 ≤ k) (h1 : k ≤ 1099511627776) (d : List UInt8) (j : Int) : den (rPut s k d).1 j = (den s j).or (cvr s k d j) := (rPut_ok h k h0 h1 d).2.2.1 j
theorem cvr_of {s t : Rq} (h : rS s = rS t) (k : Int) (d : List UInt8) (j : Int) : cvr s k d j = cvr t k d j := by
  unfold cvr
  rw [h, rLim_of h]
theorem cvr_pc {s : Rq} {t : List UInt8} {x : Act} (hx : x.ok) (ht : t.length = 512) (j : Int) {c : UInt8} (h : cvr s x.a (pc t x.a x.n) j = some c) : bA ⟨0, t⟩ j = some c := by
  have h1 := hx.a
  have h2 := hx.n
  unfold cvr at h
  split at h
  · rw [pc_bA h1.1 h2.1 (by omega)] at h
    split at h
    · exact h
    · cases h
  · cases h
theorem or_swap {x y z : Option UInt8} (h : ∀ c d, y = some c → z = some d → c = d) : (x.or y).or z = (x.or z).or y := by
  cases x with
  | some a => simp
  | none =>
    cases y with
    | none => simp
    | some c =>
      cases z with
      | none => simp
      | some d => simp [h c d rfl rfl]
theorem or_or {x y z : Option UInt8} (h : ∀ c d, y = some c → z = some d → c = d) : ((x.or y).or z).or y = (x.or y).or z := by
  cases x <;> cases y <;> cases z <;> simp_all
theorem rHeld_put {s : Rq} (h : Ok s) (k : Int) (h0 : 0 ≤ k) (h1 : k ≤ 1099511627776) (d : List UInt8) : rHeld (rPut s k d).1 ≤ rHeld s + d.length ∧ 0 ≤ (rPut s k d).2 ∧ (rPut s k d).2 ≤ d.length ∧ (rHeld (rPut s k d).1 : Int) = rHeld s + (rPut s k d).2 := by
  obtain ⟨i1, i2, i3, i4⟩ := rPut_ok h k h0 h1 d
  have e := put_same h k h0 h1 d
  obtain ⟨-, -, -, -, -, j6, j7⟩ := dJ_ok h k d d.length (Nat.le_refl _)
  rw [List.take_length] at j6 j7
  have e2 : (rPut s k d).2 = (dJ s k d).2.1 := by rw [e]
  omega
theorem rRead_ok {s : Rq} (h : Ok s) (n : Int) : Ok (rRead s n).1 ∧ rHeld (rRead s n).1 ≤ rHeld s := by
  unfold rRead
  split
  · exact ⟨h, Nat.le_refl _⟩
  · have hb := h.b
    refine ⟨⟨?_, h.srt, fun y hy => ?_⟩, ?_⟩
    · simp only [List.length_drop]; omega
    · have h1 := h.p y hy
      refine ⟨h1.1, ?_⟩
      have h2 := h1.2
      unfold rLim at h2 ⊢
      simp only [List.length_drop]
      omega
    · rw [rHeld_def, rHeld_def]
      simp only [List.length_drop]
      omega
/-- Any acts leave a state that may be. -/
def rAct (t : List UInt8) (s : Rq) (x : Act) : Rq := (rRead (rPut s x.a (pc t x.a x.n)).1 x.r).1
theorem rAct_ok {t : List UInt8} (ht : t.length = 512) {s : Rq} (h : Ok s) {x : Act} (hx : x.ok) : Ok (rAct t s x) ∧ rHeld (rAct t s x) ≤ rHeld s + 255 := by
  have xa := hx.a
  have xn := hx.n
  obtain ⟨i1, -⟩ := rPut_ok h x.a xa.1 (by omega) (pc t x.a x.n)
  have i2 := (rHeld_put h x.a xa.1 (by omega) (pc t x.a x.n)).1
  rw [pc_len xa.1 xn.1 (by omega)] at i2
  have i3 := rRead_ok i1 x.r
  exact ⟨i3.1, by have := i3.2; unfold rAct; omega⟩
theorem acts_ok {t : List UInt8} (ht : t.length = 512) {l : List Act} (hx : ∀ x ∈ l, x.ok) : ∀ j, j ≤ l.length → Ok ((l.take j).foldl (rAct t) w0) ∧ rHeld ((l.take j).foldl (rAct t) w0) ≤ 255 * j
  | 0, _ => ⟨flat_ok (n := 0) (by omega) (by simp), by simp; decide⟩
  | j + 1, hj => by
    obtain ⟨i1, i2⟩ := acts_ok ht hx j (by omega)
    have hn := get_of (l := l) (j := j) (by omega)
    rw [take_snoc hn, List.foldl_append]
    obtain ⟨k1, k2⟩ := rAct_ok ht i1 (hx _ (get_mem hn))
    refine ⟨k1, ?_⟩
    show rHeld (rAct t _ _) ≤ _
    omega
end Go.Proofs.Ytfacpafkldmkcaa.C12
