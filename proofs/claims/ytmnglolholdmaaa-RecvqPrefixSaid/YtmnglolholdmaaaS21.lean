/-
laws 12: two pieces in either order. No condition beyond the statement's own.
-/
import Derived.Test.YtmnglolholdmaaaS20
set_option linter.unusedSimpArgs false
set_option linter.unusedVariables false
namespace Go.Proofs.Ytmnglolholdmaaa
open Sx Go.RowKit

structure Act where
  a : Int
  n : Int
  r : Int
def actD (x : Act) : D := .agg [.int .u8 x.a, .int .u8 x.n, .int .u8 x.r]
def actB (x : Act) : Ob := .box [.d (.int .u8 x.a), .d (.int .u8 x.n), .d (.int .u8 x.r)]
structure Act.ok (x : Act) : Prop where
  a : 0 ≤ x.a ∧ x.a < 256
  n : 0 ≤ x.n ∧ x.n < 256
  r : 0 ≤ x.r ∧ x.r < 256
/-- The text: its bytes, and its row as far as it is laid. -/
def txB (m i : Nat) : UInt8 := UInt8.ofNat (i * m + i / 256)
def txL (m : Nat) : List UInt8 := (List.range 512).map (txB m)
def tR (m j : Nat) : List D := (List.range 512).map (fun i => if i < j then byteD (txB m i) else .int .u8 0)
theorem tR_len (m j : Nat) : (tR m j).length = 512 := by unfold tR; simp
theorem txL_len (m : Nat) : (txL m).length = 512 := by unfold txL; simp
theorem tR_end (m : Nat) : tR m 512 = (txL m).map byteD := by
  unfold tR txL
  rw [List.map_map]
  refine List.map_congr_left fun i hi => ?_
  rw [List.mem_range] at hi
  rw [if_pos hi]; rfl
theorem tR_get (m : Nat) {j : Nat} (hj : j < 512) : (tR m j)[j]? = some (.int .u8 0) := by
  unfold tR
  rw [List.getElem?_map, List.getElem?_range hj]
  simp
theorem tR_set (m : Nat) {j : Nat} (hj : j < 512) : (tR m j).set j (byteD (txB m j)) = tR m (j + 1) := by
  refine List.ext_getElem? fun i => ?_
  rw [List.getElem?_set]
  by_cases h : j = i
  · subst h
    rw [if_pos rfl, if_pos (by rw [tR_len]; exact hj)]
    unfold tR
    rw [List.getElem?_map, List.getElem?_range hj]
    simp
  · rw [if_neg h]
    unfold tR
    by_cases hi : i < 512
    · rw [List.getElem?_map, List.getElem?_map, List.getElem?_range hi]
      simp only [Option.map_some]
      have : (i < j) = (i < j + 1) := by rw [eq_iff_iff]; omega
      simp only [this]
    · rw [List.getElem?_eq_none_iff.2 (by simp; omega), List.getElem?_eq_none_iff.2 (by simp; omega)]
theorem txB_d {m : Nat} (hm : m < 10) {j : Nat} (hj : j < 512) : IntKind.u8.wrap (IntKind.i64.wrap (IntKind.i64.wrap ((j : Int) * m) + IntKind.i64.wrap ((j : Int).tdiv 256))) = ((txB m j).toNat : Int) := by
  have h0 : j * m ≤ 512 * 10 := Nat.mul_le_mul (by omega) (by omega)
  have h1 : ((j : Int) * m) = ((j * m : Nat) : Int) := by push_cast; rfl
  have h2 : ((j : Int).tdiv 256) = ((j / 256 : Nat) : Int) := by rw [Int.tdiv_eq_ediv_of_nonneg (by omega)]; omega
  rw [h1, h2, IntKind.wrap_i64, IntKind.wrap_i64, IntKind.wrap_i64, IntKind.wrap_u8]
  unfold txB
  rw [UInt8.toNat_ofNat']
  omega
/-- A piece of a text. -/
def pc (t : List UInt8) (a n : Int) : List UInt8 := (t.take (a + n).toNat).drop a.toNat
theorem pc_len {t : List UInt8} {a n : Int} (h0 : 0 ≤ a) (h1 : 0 ≤ n) (h : a + n ≤ t.length) : (pc t a n).length = n.toNat := by
  unfold pc
  rw [List.length_drop, List.length_take]
  omega
theorem pc_bA {t : List UInt8} {a n : Int} (h0 : 0 ≤ a) (h1 : 0 ≤ n) (h : a + n ≤ t.length) (k : Int) : bA ⟨a, pc t a n⟩ k = if a ≤ k ∧ k < a + n then bA ⟨0, t⟩ k else none := by
  unfold pc
  have h2 := bA_drop 0 (t.take (a + n).toNat) a.toNat k
  rw [show (0 : Int) + (a.toNat : Int) = a by omega, bA_take, show (0 : Int) + ((a + n).toNat : Int) = a + n by omega] at h2
  rw [h2]
  by_cases g1 : a ≤ k <;> by_cases g2 : k < a + n <;> simp [g1, g2]
def J6 (l : List Act) (a b : Act) (R : List D) (j : Nat) : St := ⟨[(0, .d (.sl (l.map actD))), (4, .ptr 0 0), (5, .ptr 1 0), (7, .rptr 2 1 0 0), (8, .d (.int .i64 j))], [(0, actB a), (1, actB b), (2, .row 1 R)]⟩
def K6 (l : List Act) (a b : Act) (t : List UInt8) (s : Rq) (j : Nat) : St := ⟨[(0, .d (.sl (l.map actD))), (4, .ptr 0 0), (5, .ptr 1 0), (9, .d (.str t)), (10, .ptr 2 0), (11, .d (.int .i64 j))], [(0, actB a), (1, actB b), (2, rqB s)]⟩
set_option maxRecDepth 100000 in
set_option maxHeartbeats 1000000 in
theorem t6' (l : List Act) (a b : Act) (R R' : List D) (y : Int) (j : Nat) (hj : j < 512) (hR : R.length = 512) (hg : R[j]? = some (.int .u8 0)) (hb : IntKind.u8.wrap (IntKind.i64.wrap (IntKind.i64.wrap ((j : Int) * 5) + IntKind.i64.wrap ((j : Int).tdiv 256))) = y) (hs : R.set j (.int .u8 y) = R') : Runs Try.prog 0 (loopN Try.prog 6 0) (St.as (J6 l a b R j) 180) (.normal) (St.as (J6 l a b R' (j+1)) 180) := by
  refine round_wp (p := condP (decide ((↑j : Int) < (512 : Int))) (((256 : Int) ≠ (0 : Int)) ∧ (((0 : Nat) = (0 : Nat)) ∧ (((0 : Nat) = (0 : Nat)) ∧ (((0 : Int) ≤ (↑j : Int) ∧ (↑j : Int) < (↑(512 : Nat) : Int)) ∧ (((↑j : Int) < (↑R.length : Int)) ∧ (((1 : Nat) = (1 : Nat)) ∧ ((R[(↑j : Int).toNat]? = some (D.int IntKind.u8 (0 : Int))) ∧ ((AV.d (D.sl (List.map actD l)) = AV.d (D.sl (List.map actD l))) ∧ ((AV.ptr (0 : Nat) (0 : Nat) = AV.ptr (0 : Nat) (0 : Nat)) ∧ ((AV.ptr (1 : Nat) (0 : Nat) = AV.ptr (1 : Nat) (0 : Nat)) ∧ ((AV.rptr (2 : Nat) (1 : Nat) (0 : Nat) (0 : Nat) = AV.rptr (2 : Nat) (1 : Nat) (0 : Nat) (0 : Nat)) ∧ ((AV.d (D.int IntKind.i64 (IntKind.i64.wrap ((↑j : Int) + (1 : Int)))) = AV.d (D.int IntKind.i64 (↑(j + (1 : Nat)) : Int))) ∧ ((Ob.box [AV.d (D.int IntKind.u8 a.a), AV.d (D.int IntKind.u8 a.n), AV.d (D.int IntKind.u8 a.r)] = Ob.box [AV.d (D.int IntKind.u8 a.a), AV.d (D.int IntKind.u8 a.n), AV.d (D.int IntKind.u8 a.r)]) ∧ ((Ob.box [AV.d (D.int IntKind.u8 b.a), AV.d (D.int IntKind.u8 b.n), AV.d (D.int IntKind.u8 b.r)] = Ob.box [AV.d (D.int IntKind.u8 b.a), AV.d (D.int IntKind.u8 b.n), AV.d (D.int IntKind.u8 b.r)]) ∧ ((Ob.row (1 : Nat) (R.set (↑j : Int).toNat (D.int IntKind.u8 (IntKind.u8.wrap (IntKind.i64.wrap (IntKind.i64.wrap ((↑j : Int) * (5 : Int)) + IntKind.i64.wrap ((↑j : Int).tdiv (256 : Int))))))) = Ob.row (1 : Nat) R') ∧ (True)))))))))))))))) (False)) (h := {els := [(37, .el (.int .u8 0))]}) (subs := []) (ws := []) (ρ := []) (by kernel_rfl) ?_
  have hi := inc_i64 (j := j) (by omega)
  simp only [hi, hb, hR, Int.toNat_natCast]
  refine condP_t (by rw [decide_eq_true_eq]; omega) ?_
  repeat' (first | with_reducible exact True.intro | with_reducible refine And.intro ?_ ?_ | with_reducible refine condP_dec (fun _ => ?_) (fun _ => ?_) | with_reducible refine condP_eq (fun _ => ?_) (fun _ => ?_) | with_reducible refine condP_ne (fun _ => ?_) (fun _ => ?_) | with_reducible refine condP_not (condP_dec (fun _ => ?_) (fun _ => ?_)) | with_reducible refine condP_not (condP_eq (fun _ => ?_) (fun _ => ?_)) | with_reducible refine condP_not (condP_intro (fun _ => ?_) (fun _ => ?_)) | with_reducible refine condP_intro (fun _ => ?_) (fun _ => ?_))
  all_goals first | exact hg | exact hs | exact congrArg (Ob.row 1) hs | rfl | omega | skip

set_option maxRecDepth 100000 in
set_option maxHeartbeats 1000000 in
theorem u6 (l : List Act) (a b : Act) (R : List D) : Runs Try.prog 0 (loopN Try.prog 6 0) (St.as (J6 l a b R 512) 180) (.exit 0) (St.as (J6 l a b R 512) 180) := by
  refine round_wp (p := (AV.d (D.sl (List.map actD l)) = AV.d (D.sl (List.map actD l))) ∧ ((AV.ptr (0 : Nat) (0 : Nat) = AV.ptr (0 : Nat) (0 : Nat)) ∧ ((AV.ptr (1 : Nat) (0 : Nat) = AV.ptr (1 : Nat) (0 : Nat)) ∧ ((AV.rptr (2 : Nat) (1 : Nat) (0 : Nat) (0 : Nat) = AV.rptr (2 : Nat) (1 : Nat) (0 : Nat) (0 : Nat)) ∧ ((AV.d (D.int IntKind.i64 (512 : Int)) = AV.d (D.int IntKind.i64 (512 : Int))) ∧ ((Ob.box [AV.d (D.int IntKind.u8 a.a), AV.d (D.int IntKind.u8 a.n), AV.d (D.int IntKind.u8 a.r)] = Ob.box [AV.d (D.int IntKind.u8 a.a), AV.d (D.int IntKind.u8 a.n), AV.d (D.int IntKind.u8 a.r)]) ∧ ((Ob.box [AV.d (D.int IntKind.u8 b.a), AV.d (D.int IntKind.u8 b.n), AV.d (D.int IntKind.u8 b.r)] = Ob.box [AV.d (D.int IntKind.u8 b.a), AV.d (D.int IntKind.u8 b.n), AV.d (D.int IntKind.u8 b.r)]) ∧ ((Ob.row (1 : Nat) R = Ob.row (1 : Nat) R) ∧ (True))))))))) (h := {}) (subs := []) (ws := []) (ρ := []) (by kernel_rfl) ?_
  repeat' (first | with_reducible exact True.intro | with_reducible refine And.intro ?_ ?_ | with_reducible refine condP_dec (fun _ => ?_) (fun _ => ?_) | with_reducible refine condP_eq (fun _ => ?_) (fun _ => ?_) | with_reducible refine condP_ne (fun _ => ?_) (fun _ => ?_) | with_reducible refine condP_not (condP_dec (fun _ => ?_) (fun _ => ?_)) | with_reducible refine condP_not (condP_eq (fun _ => ?_) (fun _ => ?_)) | with_reducible refine condP_not (condP_intro (fun _ => ?_) (fun _ => ?_)) | with_reducible refine condP_intro (fun _ => ?_) (fun _ => ?_))
  all_goals first | rfl | omega | skip

theorem l6 (l : List Act) (a b : Act) : Loops Try.prog 0 (loopN Try.prog 6 0) ((J6 l a b (tR 5 0) 0).as 180) (.exit 0) ((J6 l a b (tR 5 512) 512).as 180) :=
  loops_n (I := fun j => (J6 l a b (tR 5 j) j).as 180) (by simp) 512 0 (by omega) (fun j _ hj => t6' l a b _ _ _ j hj (tR_len 5 j) (tR_get 5 hj) (txB_d (m := 5) (by omega) hj) (tR_set 5 hj)) (u6 l a b _)
theorem tR_zero (m : Nat) : tR m 0 = List.replicate 512 (.int .u8 0) := by
  refine List.eq_replicate_iff.2 ⟨tR_len m 0, fun y hy => ?_⟩
  obtain ⟨i, -, rfl⟩ := List.mem_map.1 hy
  rw [if_neg (by omega)]
set_option maxRecDepth 100000 in
set_option maxHeartbeats 1000000 in
theorem r6 (l : List Act) (hl : l.length ≤ 60) (a b : Act) (t : List UInt8) (ht : t.length = 512) (s s1 s2 : Rq) (i : Int) (u : List UInt8) (j : Nat) (x : Act) (hx : x.ok) (hn : l[j]? = some x) (k1 : FnOK Try.prog 11 [.d (rqD s), .d (.int .i64 x.a), .d (.str (pc t x.a x.n))] [] (.tup [.d (rqD s1), .d (.int .i64 i)]) []) (k2 : FnOK Try.prog 13 [.d (rqD s1), .d (.int .i64 x.r)] [] (.tup [.d (rqD s2), .d (.str u)]) []) : Runs Try.prog 0 (loopN Try.prog 6 1) (St.as (K6 l a b t s j) 180) (.normal) (St.as (K6 l a b t s2 (j+1)) 180) := by
  refine round_wp (p := condP (decide ((↑j : Int) < (↑(List.map actD l).length : Int))) (((0 : Int) ≤ (↑j : Int)) ∧ (((List.map actD l)[(↑j : Int).toNat]? = some (D.agg [D.int IntKind.u8 x.a, D.int IntKind.u8 x.n, D.int IntKind.u8 x.r])) ∧ (((0 : Int) ≤ (↑j : Int)) ∧ (((List.map actD l)[(↑j : Int).toNat]? = some (D.agg [D.int IntKind.u8 x.a, D.int IntKind.u8 x.n, D.int IntKind.u8 x.r])) ∧ (((0 : Int) ≤ (↑j : Int)) ∧ (((List.map actD l)[(↑j : Int).toNat]? = some (D.agg [D.int IntKind.u8 x.a, D.int IntKind.u8 x.n, D.int IntKind.u8 x.r])) ∧ (((0 : Int) ≤ (↑j : Int)) ∧ (((List.map actD l)[(↑j : Int).toNat]? = some (D.agg [D.int IntKind.u8 x.a, D.int IntKind.u8 x.n, D.int IntKind.u8 x.r])) ∧ (((0 : Int) ≤ x.a ∧ x.a ≤ IntKind.i64.wrap (IntKind.i64.wrap x.a + IntKind.i64.wrap x.n) ∧ IntKind.i64.wrap (IntKind.i64.wrap x.a + IntKind.i64.wrap x.n) ≤ (↑t.length : Int)) ∧ ((FnOK Try.prog (11 : Nat) [AV.d (D.agg [D.int IntKind.i64 s.b, D.str s.r, D.sl (List.map ptD s.p)]), AV.d (D.int IntKind.i64 (IntKind.i64.wrap x.a)), AV.d (D.str (List.drop x.a.toNat (List.take (IntKind.i64.wrap (IntKind.i64.wrap x.a + IntKind.i64.wrap x.n)).toNat t)))] [] (AV.tup [AV.d (D.agg [D.int IntKind.i64 s1.b, D.str s1.r, D.sl (List.map ptD s1.p)]), AV.d (D.int IntKind.i64 i)]) []) ∧ (((0 : Int) ≤ (↑j : Int)) ∧ (((List.map actD l)[(↑j : Int).toNat]? = some (D.agg [D.int IntKind.u8 x.a, D.int IntKind.u8 x.n, D.int IntKind.u8 x.r])) ∧ ((FnOK Try.prog (13 : Nat) [AV.d (D.agg [D.int IntKind.i64 s1.b, D.str s1.r, D.sl (List.map ptD s1.p)]), AV.d (D.int IntKind.i64 (IntKind.i64.wrap x.r))] [] (AV.tup [AV.d (D.agg [D.int IntKind.i64 s2.b, D.str s2.r, D.sl (List.map ptD s2.p)]), AV.d (D.str u)]) []) ∧ ((AV.d (D.sl (List.map actD l)) = AV.d (D.sl (List.map actD l))) ∧ ((AV.ptr (0 : Nat) (0 : Nat) = AV.ptr (0 : Nat) (0 : Nat)) ∧ ((AV.ptr (1 : Nat) (0 : Nat) = AV.ptr (1 : Nat) (0 : Nat)) ∧ ((AV.d (D.str t) = AV.d (D.str t)) ∧ ((AV.ptr (2 : Nat) (0 : Nat) = AV.ptr (2 : Nat) (0 : Nat)) ∧ ((AV.d (D.int IntKind.i64 (IntKind.i64.wrap ((↑j : Int) + (1 : Int)))) = AV.d (D.int IntKind.i64 (↑(j + (1 : Nat)) : Int))) ∧ ((Ob.box [AV.d (D.int IntKind.u8 a.a), AV.d (D.int IntKind.u8 a.n), AV.d (D.int IntKind.u8 a.r)] = Ob.box [AV.d (D.int IntKind.u8 a.a), AV.d (D.int IntKind.u8 a.n), AV.d (D.int IntKind.u8 a.r)]) ∧ ((Ob.box [AV.d (D.int IntKind.u8 b.a), AV.d (D.int IntKind.u8 b.n), AV.d (D.int IntKind.u8 b.r)] = Ob.box [AV.d (D.int IntKind.u8 b.a), AV.d (D.int IntKind.u8 b.n), AV.d (D.int IntKind.u8 b.r)]) ∧ ((Ob.box [AV.d (D.int IntKind.i64 s2.b), AV.d (D.str s2.r), AV.d (D.sl (List.map ptD s2.p))] = Ob.box [AV.d (D.int IntKind.i64 s2.b), AV.d (D.str s2.r), AV.d (D.sl (List.map ptD s2.p))]) ∧ (True))))))))))))))))))))))) (False)) (h := {els := [(49, .el (actD x)), (56, .el (actD x)), (61, .el (actD x)), (67, .el (actD x)), (80, .el (actD x))], G := [(11, gAns (.tup [.d (rqD s1), .d (.int .i64 i)])), (13, gAns (.tup [.d (rqD s2), .d (.str u)]))]}) (subs := []) (ws := []) (ρ := []) (by kernel_rfl) ?_
  have hj := get_lt hn
  have hi := inc_i64 (j := j) (by omega)
  have xa := hx.a
  have xn := hx.n
  have xr := hx.r
  have w1 : IntKind.i64.wrap x.a = x.a := by rw [IntKind.wrap_i64]; omega
  have w2 : IntKind.i64.wrap x.n = x.n := by rw [IntKind.wrap_i64]; omega
  have w3 : IntKind.i64.wrap (x.a + x.n) = x.a + x.n := by rw [IntKind.wrap_i64]; omega
  have w4 : IntKind.i64.wrap x.r = x.r := by rw [IntKind.wrap_i64]; omega
  simp only [hi, w1, w2, w3, w4, List.length_map]
  refine condP_t (by rw [decide_eq_true_eq]; omega) ?_
  repeat' (first | with_reducible exact True.intro | with_reducible refine And.intro ?_ ?_ | with_reducible refine condP_dec (fun _ => ?_) (fun _ => ?_) | with_reducible refine condP_eq (fun _ => ?_) (fun _ => ?_) | with_reducible refine condP_ne (fun _ => ?_) (fun _ => ?_) | with_reducible refine condP_not (condP_dec (fun _ => ?_) (fun _ => ?_)) | with_reducible refine condP_not (condP_eq (fun _ => ?_) (fun _ => ?_)) | with_reducible refine condP_not (condP_intro (fun _ => ?_) (fun _ => ?_)) | with_reducible refine condP_intro (fun _ => ?_) (fun _ => ?_))
  all_goals first | exact k1 | exact k2 | exact el_map hn rfl | rfl | omega | skip

set_option maxRecDepth 100000 in
set_option maxHeartbeats 1000000 in
theorem q6 (l : List Act) (a b : Act) (t : List UInt8) (s : Rq) : Runs Try.prog 0 (loopN Try.prog 6 1) (St.as (K6 l a b t s l.length) 180) (.exit 2) (St.as (K6 l a b t s l.length) 180) := by
  refine round_wp (p := condP (decide ((↑l.length : Int) < (↑(List.map actD l).length : Int))) (False) ((AV.d (D.sl (List.map actD l)) = AV.d (D.sl (List.map actD l))) ∧ ((AV.ptr (0 : Nat) (0 : Nat) = AV.ptr (0 : Nat) (0 : Nat)) ∧ ((AV.ptr (1 : Nat) (0 : Nat) = AV.ptr (1 : Nat) (0 : Nat)) ∧ ((AV.d (D.str t) = AV.d (D.str t)) ∧ ((AV.ptr (2 : Nat) (0 : Nat) = AV.ptr (2 : Nat) (0 : Nat)) ∧ ((AV.d (D.int IntKind.i64 (↑l.length : Int)) = AV.d (D.int IntKind.i64 (↑l.length : Int))) ∧ ((Ob.box [AV.d (D.int IntKind.u8 a.a), AV.d (D.int IntKind.u8 a.n), AV.d (D.int IntKind.u8 a.r)] = Ob.box [AV.d (D.int IntKind.u8 a.a), AV.d (D.int IntKind.u8 a.n), AV.d (D.int IntKind.u8 a.r)]) ∧ ((Ob.box [AV.d (D.int IntKind.u8 b.a), AV.d (D.int IntKind.u8 b.n), AV.d (D.int IntKind.u8 b.r)] = Ob.box [AV.d (D.int IntKind.u8 b.a), AV.d (D.int IntKind.u8 b.n), AV.d (D.int IntKind.u8 b.r)]) ∧ ((Ob.box [AV.d (D.int IntKind.i64 s.b), AV.d (D.str s.r), AV.d (D.sl (List.map ptD s.p))] = Ob.box [AV.d (D.int IntKind.i64 s.b), AV.d (D.str s.r), AV.d (D.sl (List.map ptD s.p))]) ∧ (True))))))))))) (h := {}) (subs := []) (ws := []) (ρ := []) (by kernel_rfl) ?_
  repeat' (first | with_reducible exact True.intro | with_reducible refine And.intro ?_ ?_ | with_reducible refine condP_dec (fun _ => ?_) (fun _ => ?_) | with_reducible refine condP_eq (fun _ => ?_) (fun _ => ?_) | with_reducible refine condP_ne (fun _ => ?_) (fun _ => ?_) | with_reducible refine condP_not (condP_dec (fun _ => ?_) (fun _ => ?_)) | with_reducible refine condP_not (condP_eq (fun _ => ?_) (fun _ => ?_)) | with_reducible refine condP_not (condP_intro (fun _ => ?_) (fun _ => ?_)) | with_reducible refine condP_intro (fun _ => ?_) (fun _ => ?_))
  all_goals (try simp only [List.length_map, AV.d.injEq, D.int.injEq, D.bool.injEq, D.str.injEq, D.sl.injEq, true_and, and_true, decide_eq_true_eq, decide_eq_false_iff_not, decide_eq_decide])
  all_goals (try simp only [List.length_map] at *)
  all_goals first | rfl | omega

set_option maxRecDepth 100000 in
set_option maxHeartbeats 1000000 in
theorem ord6n (l : List Act) (hl : ¬l.length ≤ 60) (a b : Act) : FnOK Try.prog 6 ([.d (.sl (l.map actD)), .d (actD a), .d (actD b)]) ([]) (.d (.bool true)) ([]) := by
  refine fnOK_wp (p := (D.bool (decide ((↑(List.map actD l).length : Int) > (60 : Int))) = D.bool true) ∧ ((FnOK Try.prog (9 : Nat) [] [] (AV.d (D.bool true)) []) ∧ ((AV.d (D.bool true) = AV.d (D.bool true)) ∧ (True)))) (h := {H := [(1, [(2, .val (.bool true))])], G := [(9, gYes)]}) (subs := []) (ws := []) (ρ := []) (by kernel_rfl) ?_
  simp only [List.length_map]
  repeat' (first | with_reducible exact True.intro | with_reducible refine And.intro ?_ ?_ | with_reducible refine condP_dec (fun _ => ?_) (fun _ => ?_) | with_reducible refine condP_eq (fun _ => ?_) (fun _ => ?_) | with_reducible refine condP_ne (fun _ => ?_) (fun _ => ?_) | with_reducible refine condP_not (condP_dec (fun _ => ?_) (fun _ => ?_)) | with_reducible refine condP_not (condP_eq (fun _ => ?_) (fun _ => ?_)) | with_reducible refine condP_not (condP_intro (fun _ => ?_) (fun _ => ?_)) | with_reducible refine condP_intro (fun _ => ?_) (fun _ => ?_))
  all_goals first | exact aw9 | rfl | exact dyes (by omega) | skip

set_option maxRecDepth 100000 in
set_option maxHeartbeats 1000000 in
theorem ord6 (l : List Act) (hl : l.length ≤ 60) (a b : Act) (ha : a.ok) (hb : b.ok) (tx : List UInt8) (htl : tx.length = 512) (st X Y Z : Rq) (n m i k : Int) (hnm : IntKind.i64.wrap (n + m) = IntKind.i64.wrap (i + k)) (hY : Y.p.length < 800000) (c1 : FnOK Try.prog 11 [.d (rqD st), .d (.int .i64 a.a), .d (.str (pc tx a.a a.n))] [] (.tup [.d (rqD X), .d (.int .i64 n)]) []) (c2 : FnOK Try.prog 11 [.d (rqD X), .d (.int .i64 b.a), .d (.str (pc tx b.a b.n))] [] (.tup [.d (rqD Y), .d (.int .i64 m)]) []) (c3 : FnOK Try.prog 11 [.d (rqD st), .d (.int .i64 b.a), .d (.str (pc tx b.a b.n))] [] (.tup [.d (rqD Z), .d (.int .i64 i)]) []) (c4 : FnOK Try.prog 11 [.d (rqD Z), .d (.int .i64 a.a), .d (.str (pc tx a.a a.n))] [] (.tup [.d (rqD Y), .d (.int .i64 k)]) []) (c5 : FnOK Try.prog 11 [.d (rqD Y), .d (.int .i64 b.a), .d (.str (pc tx b.a b.n))] [] (.tup [.d (rqD Y), .d (.int .i64 0)]) []) (R0 R1 : List D) (hR0 : R0 = List.replicate 512 (.int .u8 0)) (hR1 : R1 = tx.map byteD) (h1 : Loops Try.prog 0 (loopN Try.prog 6 0) ((J6 l a b R0 0).as 180) (.exit 0) ((J6 l a b R1 512).as 180)) (h2 : Loops Try.prog 0 (loopN Try.prog 6 1) ((K6 l a b tx w0 0).as 180) (.exit 2) ((K6 l a b tx st l.length).as 180)) : FnOK Try.prog 6 ([.d (.sl (l.map actD)), .d (actD a), .d (actD b)]) ([]) (.d (.bool true)) ([]) := by
  refine fnOK_wp (p := (D.bool (decide ((↑(List.map actD l).length : Int) > (60 : Int))) = D.bool false) ∧ ((AV.d (D.sl (List.map actD l)) = AV.d (D.sl (List.map actD l))) ∧ ((AV.ptr (1032 : Nat) (0 : Nat) = AV.ptr (1032 : Nat) (0 : Nat)) ∧ ((AV.ptr (1040 : Nat) (0 : Nat) = AV.ptr (1040 : Nat) (0 : Nat)) ∧ ((AV.rptr (1056 : Nat) (1 : Nat) (0 : Nat) (0 : Nat) = AV.rptr (1056 : Nat) (1 : Nat) (0 : Nat) (0 : Nat)) ∧ ((AV.d (D.int IntKind.i64 (0 : Int)) = AV.d (D.int IntKind.i64 (0 : Int))) ∧ ((Ob.box [AV.d (D.int IntKind.u8 a.a), AV.d (D.int IntKind.u8 a.n), AV.d (D.int IntKind.u8 a.r)] = Ob.box [AV.d (D.int IntKind.u8 a.a), AV.d (D.int IntKind.u8 a.n), AV.d (D.int IntKind.u8 a.r)]) ∧ ((Ob.box [AV.d (D.int IntKind.u8 b.a), AV.d (D.int IntKind.u8 b.n), AV.d (D.int IntKind.u8 b.r)] = Ob.box [AV.d (D.int IntKind.u8 b.a), AV.d (D.int IntKind.u8 b.n), AV.d (D.int IntKind.u8 b.r)]) ∧ ((Ob.row (1 : Nat) [D.int IntKind.u8 (0 : Int), D.int IntKind.u8 (0 : Int), D.int IntKind.u8 (0 : Int), D.int IntKind.u8 (0 : Int), D.int IntKind.u8 (0 : Int), D.int IntKind.u8 (0 : Int), D.int IntKind.u8 (0 : Int), D.int IntKind.u8 (0 : Int), D.int IntKind.u8 (0 : Int), D.int IntKind.u8 (0 : Int), D.int IntKind.u8 (0 : Int), D.int IntKind.u8 (0 : Int), D.int IntKind.u8 (0 : Int), D.int IntKind.u8 (0 : Int), D.int IntKind.u8 (0 : Int), D.int IntKind.u8 (0 : Int), D.int IntKind.u8 (0 : Int), D.int IntKind.u8 (0 : Int), D.int IntKind.u8 (0 : Int), D.int IntKind.u8 (0 : Int), D.int IntKind.u8 (0 : Int), D.int IntKind.u8 (0 : Int), D.int IntKind.u8 (0 : Int), D.int IntKind.u8 (0 : Int), D.int IntKind.u8 (0 : Int), D.int IntKind.u8 (0 : Int), D.int IntKind.u8 (0 : Int), D.int IntKind.u8 (0 : Int), D.int IntKind.u8 (0 : Int), D.int IntKind.u8 (0 : Int), D.int IntKind.u8 (0 : Int), D.int IntKind.u8 (0 : Int), D.int IntKind.u8 (0 : Int), D.int IntKind.u8 (0 : Int), D.int IntKind.u8 (0 : Int), D.int IntKind.u8 (0 : Int), D.int IntKind.u8 (0 : Int), D.int IntKind.u8 (0 : Int), D.int IntKind.u8 (0 : Int), D.int IntKind.u8 (0 : Int), D.int IntKind.u8 (0 : Int), D.int IntKind.u8 (0 : Int), D.int IntKind.u8 (0 : Int), D.int IntKind.u8 (0 : Int), D.int IntKind.u8 (0 : Int), D.int IntKind.u8 (0 : Int), D.int IntKind.u8 (0 : Int), D.int IntKind.u8 (0 : Int), D.int IntKind.u8 (0 : Int), D.int IntKind.u8 (0 : Int), D.int IntKind.u8 (0 : Int), D.int IntKind.u8 (0 : Int), D.int IntKind.u8 (0 : Int), D.int IntKind.u8 (0 : Int), D.int IntKind.u8 (0 : Int), D.int IntKind.u8 (0 : Int), D.int IntKind.u8 (0 : Int), D.int IntKind.u8 (0 : Int), D.int IntKind.u8 (0 : Int), D.int IntKind.u8 (0 : Int), D.int IntKind.u8 (0 : Int), D.int IntKind.u8 (0 : Int), D.int IntKind.u8 (0 : Int), D.int IntKind.u8 (0 : Int), D.int IntKind.u8 (0 : Int), D.int IntKind.u8 (0 : Int), D.int IntKind.u8 (0 : Int), D.int IntKind.u8 (0 : Int), D.int IntKind.u8 (0 : Int), D.int IntKind.u8 (0 : Int), D.int IntKind.u8 (0 : Int), D.int IntKind.u8 (0 : Int), D.int IntKind.u8 (0 : Int), D.int IntKind.u8 (0 : Int), D.int IntKind.u8 (0 : Int), D.int IntKind.u8 (0 : Int), D.int IntKind.u8 (0 : Int), D.int IntKind.u8 (0 : Int), D.int IntKind.u8 (0 : Int), D.int IntKind.u8 (0 : Int), D.int IntKind.u8 (0 : Int), D.int IntKind.u8 (0 : Int), D.int IntKind.u8 (0 : Int), D.int IntKind.u8 (0 : Int), D.int IntKind.u8 (0 : Int), D.int IntKind.u8 (0 : Int), D.int IntKind.u8 (0 : Int), D.int IntKind.u8 (0 : Int), D.int IntKind.u8 (0 : Int), D.int IntKind.u8 (0 : Int), D.int IntKind.u8 (0 : Int), D.int IntKind.u8 (0 : Int), D.int IntKind.u8 (0 : Int), D.int IntKind.u8 (0 : Int), D.int IntKind.u8 (0 : Int), D.int IntKind.u8 (0 : Int), D.int IntKind.u8 (0 : Int), D.int IntKind.u8 (0 : Int), D.int IntKind.u8 (0 : Int), D.int IntKind.u8 (0 : Int), D.int IntKind.u8 (0 : Int), D.int IntKind.u8 (0 : Int), D.int IntKind.u8 (0 : Int), D.int IntKind.u8 (0 : Int), D.int IntKind.u8 (0 : Int), D.int IntKind.u8 (0 : Int), D.int IntKind.u8 (0 : Int), D.int IntKind.u8 (0 : Int), D.int IntKind.u8 (0 : Int), D.int IntKind.u8 (0 : Int), D.int IntKind.u8 (0 : Int), D.int IntKind.u8 (0 : Int), D.int IntKind.u8 (0 : Int), D.int IntKind.u8 (0 : Int), D.int IntKind.u8 (0 : Int), D.int IntKind.u8 (0 : Int), D.int IntKind.u8 (0 : Int), D.int IntKind.u8 (0 : Int), D.int IntKind.u8 (0 : Int), D.int IntKind.u8 (0 : Int), D.int IntKind.u8 (0 : Int), D.int IntKind.u8 (0 : Int), D.int IntKind.u8 (0 : Int), D.int IntKind.u8 (0 : Int), D.int IntKind.u8 (0 : Int), D.int IntKind.u8 (0 : Int), D.int IntKind.u8 (0 : Int), D.int IntKind.u8 (0 : Int), D.int IntKind.u8 (0 : Int), D.int IntKind.u8 (0 : Int), D.int IntKind.u8 (0 : Int), D.int IntKind.u8 (0 : Int), D.int IntKind.u8 (0 : Int), D.int IntKind.u8 (0 : Int), D.int IntKind.u8 (0 : Int), D.int IntKind.u8 (0 : Int), D.int IntKind.u8 (0 : Int), D.int IntKind.u8 (0 : Int), D.int IntKind.u8 (0 : Int), D.int IntKind.u8 (0 : Int), D.int IntKind.u8 (0 : Int), D.int IntKind.u8 (0 : Int), D.int IntKind.u8 (0 : Int), D.int IntKind.u8 (0 : Int), D.int IntKind.u8 (0 : Int), D.int IntKind.u8 (0 : Int), D.int IntKind.u8 (0 : Int), D.int IntKind.u8 (0 : Int), D.int IntKind.u8 (0 : Int), D.int IntKind.u8 (0 : Int), D.int IntKind.u8 (0 : Int), D.int IntKind.u8 (0 : Int), D.int IntKind.u8 (0 : Int), D.int IntKind.u8 (0 : Int), D.int IntKind.u8 (0 : Int), D.int IntKind.u8 (0 : Int), D.int IntKind.u8 (0 : Int), D.int IntKind.u8 (0 : Int), D.int IntKind.u8 (0 : Int), D.int IntKind.u8 (0 : Int), D.int IntKind.u8 (0 : Int), D.int IntKind.u8 (0 : Int), D.int IntKind.u8 (0 : Int), D.int IntKind.u8 (0 : Int), D.int IntKind.u8 (0 : Int), D.int IntKind.u8 (0 : Int), D.int IntKind.u8 (0 : Int), D.int IntKind.u8 (0 : Int), D.int IntKind.u8 (0 : Int), D.int IntKind.u8 (0 : Int), D.int IntKind.u8 (0 : Int), D.int IntKind.u8 (0 : Int), D.int IntKind.u8 (0 : Int), D.int IntKind.u8 (0 : Int), D.int IntKind.u8 (0 : Int), D.int IntKind.u8 (0 : Int), D.int IntKind.u8 (0 : Int), D.int IntKind.u8 (0 : Int), D.int IntKind.u8 (0 : Int), D.int IntKind.u8 (0 : Int), D.int IntKind.u8 (0 : Int), D.int IntKind.u8 (0 : Int), D.int IntKind.u8 (0 : Int), D.int IntKind.u8 (0 : Int), D.int IntKind.u8 (0 : Int), D.int IntKind.u8 (0 : Int), D.int IntKind.u8 (0 : Int), D.int IntKind.u8 (0 : Int), D.int IntKind.u8 (0 : Int), D.int IntKind.u8 (0 : Int), D.int IntKind.u8 (0 : Int), D.int IntKind.u8 (0 : Int), D.int IntKind.u8 (0 : Int), D.int IntKind.u8 (0 : Int), D.int IntKind.u8 (0 : Int), D.int IntKind.u8 (0 : Int), D.int IntKind.u8 (0 : Int), D.int IntKind.u8 (0 : Int), D.int IntKind.u8 (0 : Int), D.int IntKind.u8 (0 : Int), D.int IntKind.u8 (0 : Int), D.int IntKind.u8 (0 : Int), D.int IntKind.u8 (0 : Int), D.int IntKind.u8 (0 : Int), D.int IntKind.u8 (0 : Int), D.int IntKind.u8 (0 : Int), D.int IntKind.u8 (0 : Int), D.int IntKind.u8 (0 : Int), D.int IntKind.u8 (0 : Int), D.int IntKind.u8 (0 : Int), D.int IntKind.u8 (0 : Int), D.int IntKind.u8 (0 : Int), D.int IntKind.u8 (0 : Int), D.int IntKind.u8 (0 : Int), D.int IntKind.u8 (0 : Int), D.int IntKind.u8 (0 : Int), D.int IntKind.u8 (0 : Int), D.int IntKind.u8 (0 : Int), D.int IntKind.u8 (0 : Int), D.int IntKind.u8 (0 : Int), D.int IntKind.u8 (0 : Int), D.int IntKind.u8 (0 : Int), D.int IntKind.u8 (0 : Int), D.int IntKind.u8 (0 : Int), D.int IntKind.u8 (0 : Int), D.int IntKind.u8 (0 : Int), D.int IntKind.u8 (0 : Int), D.int IntKind.u8 (0 : Int), D.int IntKind.u8 (0 : Int), D.int IntKind.u8 (0 : Int), D.int IntKind.u8 (0 : Int), D.int IntKind.u8 (0 : Int), D.int IntKind.u8 (0 : Int), D.int IntKind.u8 (0 : Int), D.int IntKind.u8 (0 : Int), D.int IntKind.u8 (0 : Int), D.int IntKind.u8 (0 : Int), D.int IntKind.u8 (0 : Int), D.int IntKind.u8 (0 : Int), D.int IntKind.u8 (0 : Int), D.int IntKind.u8 (0 : Int), D.int IntKind.u8 (0 : Int), D.int IntKind.u8 (0 : Int), D.int IntKind.u8 (0 : Int), D.int IntKind.u8 (0 : Int), D.int IntKind.u8 (0 : Int), D.int IntKind.u8 (0 : Int), D.int IntKind.u8 (0 : Int), D.int IntKind.u8 (0 : Int), D.int IntKind.u8 (0 : Int), D.int IntKind.u8 (0 : Int), D.int IntKind.u8 (0 : Int), D.int IntKind.u8 (0 : Int), D.int IntKind.u8 (0 : Int), D.int IntKind.u8 (0 : Int), D.int IntKind.u8 (0 : Int), D.int IntKind.u8 (0 : Int), D.int IntKind.u8 (0 : Int), D.int IntKind.u8 (0 : Int), D.int IntKind.u8 (0 : Int), D.int IntKind.u8 (0 : Int), D.int IntKind.u8 (0 : Int), D.int IntKind.u8 (0 : Int), D.int IntKind.u8 (0 : Int), D.int IntKind.u8 (0 : Int), D.int IntKind.u8 (0 : Int), D.int IntKind.u8 (0 : Int), D.int IntKind.u8 (0 : Int), D.int IntKind.u8 (0 : Int), D.int IntKind.u8 (0 : Int), D.int IntKind.u8 (0 : Int), D.int IntKind.u8 (0 : Int), D.int IntKind.u8 (0 : Int), D.int IntKind.u8 (0 : Int), D.int IntKind.u8 (0 : Int), D.int IntKind.u8 (0 : Int), D.int IntKind.u8 (0 : Int), D.int IntKind.u8 (0 : Int), D.int IntKind.u8 (0 : Int), D.int IntKind.u8 (0 : Int), D.int IntKind.u8 (0 : Int), D.int IntKind.u8 (0 : Int), D.int IntKind.u8 (0 : Int), D.int IntKind.u8 (0 : Int), D.int IntKind.u8 (0 : Int), D.int IntKind.u8 (0 : Int), D.int IntKind.u8 (0 : Int), D.int IntKind.u8 (0 : Int), D.int IntKind.u8 (0 : Int), D.int IntKind.u8 (0 : Int), D.int IntKind.u8 (0 : Int), D.int IntKind.u8 (0 : Int), D.int IntKind.u8 (0 : Int), D.int IntKind.u8 (0 : Int), D.int IntKind.u8 (0 : Int), D.int IntKind.u8 (0 : Int), D.int IntKind.u8 (0 : Int), D.int IntKind.u8 (0 : Int), D.int IntKind.u8 (0 : Int), D.int IntKind.u8 (0 : Int), D.int IntKind.u8 (0 : Int), D.int IntKind.u8 (0 : Int), D.int IntKind.u8 (0 : Int), D.int IntKind.u8 (0 : Int), D.int IntKind.u8 (0 : Int), D.int IntKind.u8 (0 : Int), D.int IntKind.u8 (0 : Int), D.int IntKind.u8 (0 : Int), D.int IntKind.u8 (0 : Int), D.int IntKind.u8 (0 : Int), D.int IntKind.u8 (0 : Int), D.int IntKind.u8 (0 : Int), D.int IntKind.u8 (0 : Int), D.int IntKind.u8 (0 : Int), D.int IntKind.u8 (0 : Int), D.int IntKind.u8 (0 : Int), D.int IntKind.u8 (0 : Int), D.int IntKind.u8 (0 : Int), D.int IntKind.u8 (0 : Int), D.int IntKind.u8 (0 : Int), D.int IntKind.u8 (0 : Int), D.int IntKind.u8 (0 : Int), D.int IntKind.u8 (0 : Int), D.int IntKind.u8 (0 : Int), D.int IntKind.u8 (0 : Int), D.int IntKind.u8 (0 : Int), D.int IntKind.u8 (0 : Int), D.int IntKind.u8 (0 : Int), D.int IntKind.u8 (0 : Int), D.int IntKind.u8 (0 : Int), D.int IntKind.u8 (0 : Int), D.int IntKind.u8 (0 : Int), D.int IntKind.u8 (0 : Int), D.int IntKind.u8 (0 : Int), D.int IntKind.u8 (0 : Int), D.int IntKind.u8 (0 : Int), D.int IntKind.u8 (0 : Int), D.int IntKind.u8 (0 : Int), D.int IntKind.u8 (0 : Int), D.int IntKind.u8 (0 : Int), D.int IntKind.u8 (0 : Int), D.int IntKind.u8 (0 : Int), D.int IntKind.u8 (0 : Int), D.int IntKind.u8 (0 : Int), D.int IntKind.u8 (0 : Int), D.int IntKind.u8 (0 : Int), D.int IntKind.u8 (0 : Int), D.int IntKind.u8 (0 : Int), D.int IntKind.u8 (0 : Int), D.int IntKind.u8 (0 : Int), D.int IntKind.u8 (0 : Int), D.int IntKind.u8 (0 : Int), D.int IntKind.u8 (0 : Int), D.int IntKind.u8 (0 : Int), D.int IntKind.u8 (0 : Int), D.int IntKind.u8 (0 : Int), D.int IntKind.u8 (0 : Int), D.int IntKind.u8 (0 : Int), D.int IntKind.u8 (0 : Int), D.int IntKind.u8 (0 : Int), D.int IntKind.u8 (0 : Int), D.int IntKind.u8 (0 : Int), D.int IntKind.u8 (0 : Int), D.int IntKind.u8 (0 : Int), D.int IntKind.u8 (0 : Int), D.int IntKind.u8 (0 : Int), D.int IntKind.u8 (0 : Int), D.int IntKind.u8 (0 : Int), D.int IntKind.u8 (0 : Int), D.int IntKind.u8 (0 : Int), D.int IntKind.u8 (0 : Int), D.int IntKind.u8 (0 : Int), D.int IntKind.u8 (0 : Int), D.int IntKind.u8 (0 : Int), D.int IntKind.u8 (0 : Int), D.int IntKind.u8 (0 : Int), D.int IntKind.u8 (0 : Int), D.int IntKind.u8 (0 : Int), D.int IntKind.u8 (0 : Int), D.int IntKind.u8 (0 : Int), D.int IntKind.u8 (0 : Int), D.int IntKind.u8 (0 : Int), D.int IntKind.u8 (0 : Int), D.int IntKind.u8 (0 : Int), D.int IntKind.u8 (0 : Int), D.int IntKind.u8 (0 : Int), D.int IntKind.u8 (0 : Int), D.int IntKind.u8 (0 : Int), D.int IntKind.u8 (0 : Int), D.int IntKind.u8 (0 : Int), D.int IntKind.u8 (0 : Int), D.int IntKind.u8 (0 : Int), D.int IntKind.u8 (0 : Int), D.int IntKind.u8 (0 : Int), D.int IntKind.u8 (0 : Int), D.int IntKind.u8 (0 : Int), D.int IntKind.u8 (0 : Int), D.int IntKind.u8 (0 : Int), D.int IntKind.u8 (0 : Int), D.int IntKind.u8 (0 : Int), D.int IntKind.u8 (0 : Int), D.int IntKind.u8 (0 : Int), D.int IntKind.u8 (0 : Int), D.int IntKind.u8 (0 : Int), D.int IntKind.u8 (0 : Int), D.int IntKind.u8 (0 : Int), D.int IntKind.u8 (0 : Int), D.int IntKind.u8 (0 : Int), D.int IntKind.u8 (0 : Int), D.int IntKind.u8 (0 : Int), D.int IntKind.u8 (0 : Int), D.int IntKind.u8 (0 : Int), D.int IntKind.u8 (0 : Int), D.int IntKind.u8 (0 : Int), D.int IntKind.u8 (0 : Int), D.int IntKind.u8 (0 : Int), D.int IntKind.u8 (0 : Int), D.int IntKind.u8 (0 : Int), D.int IntKind.u8 (0 : Int), D.int IntKind.u8 (0 : Int), D.int IntKind.u8 (0 : Int), D.int IntKind.u8 (0 : Int), D.int IntKind.u8 (0 : Int), D.int IntKind.u8 (0 : Int), D.int IntKind.u8 (0 : Int), D.int IntKind.u8 (0 : Int), D.int IntKind.u8 (0 : Int), D.int IntKind.u8 (0 : Int), D.int IntKind.u8 (0 : Int), D.int IntKind.u8 (0 : Int), D.int IntKind.u8 (0 : Int), D.int IntKind.u8 (0 : Int), D.int IntKind.u8 (0 : Int), D.int IntKind.u8 (0 : Int), D.int IntKind.u8 (0 : Int), D.int IntKind.u8 (0 : Int), D.int IntKind.u8 (0 : Int), D.int IntKind.u8 (0 : Int), D.int IntKind.u8 (0 : Int), D.int IntKind.u8 (0 : Int), D.int IntKind.u8 (0 : Int), D.int IntKind.u8 (0 : Int), D.int IntKind.u8 (0 : Int), D.int IntKind.u8 (0 : Int), D.int IntKind.u8 (0 : Int), D.int IntKind.u8 (0 : Int), D.int IntKind.u8 (0 : Int), D.int IntKind.u8 (0 : Int), D.int IntKind.u8 (0 : Int), D.int IntKind.u8 (0 : Int), D.int IntKind.u8 (0 : Int), D.int IntKind.u8 (0 : Int), D.int IntKind.u8 (0 : Int), D.int IntKind.u8 (0 : Int), D.int IntKind.u8 (0 : Int), D.int IntKind.u8 (0 : Int), D.int IntKind.u8 (0 : Int), D.int IntKind.u8 (0 : Int), D.int IntKind.u8 (0 : Int), D.int IntKind.u8 (0 : Int), D.int IntKind.u8 (0 : Int), D.int IntKind.u8 (0 : Int), D.int IntKind.u8 (0 : Int), D.int IntKind.u8 (0 : Int), D.int IntKind.u8 (0 : Int), D.int IntKind.u8 (0 : Int), D.int IntKind.u8 (0 : Int), D.int IntKind.u8 (0 : Int), D.int IntKind.u8 (0 : Int), D.int IntKind.u8 (0 : Int), D.int IntKind.u8 (0 : Int), D.int IntKind.u8 (0 : Int), D.int IntKind.u8 (0 : Int), D.int IntKind.u8 (0 : Int), D.int IntKind.u8 (0 : Int), D.int IntKind.u8 (0 : Int), D.int IntKind.u8 (0 : Int), D.int IntKind.u8 (0 : Int), D.int IntKind.u8 (0 : Int), D.int IntKind.u8 (0 : Int), D.int IntKind.u8 (0 : Int), D.int IntKind.u8 (0 : Int), D.int IntKind.u8 (0 : Int), D.int IntKind.u8 (0 : Int), D.int IntKind.u8 (0 : Int), D.int IntKind.u8 (0 : Int), D.int IntKind.u8 (0 : Int), D.int IntKind.u8 (0 : Int), D.int IntKind.u8 (0 : Int), D.int IntKind.u8 (0 : Int), D.int IntKind.u8 (0 : Int), D.int IntKind.u8 (0 : Int), D.int IntKind.u8 (0 : Int), D.int IntKind.u8 (0 : Int), D.int IntKind.u8 (0 : Int), D.int IntKind.u8 (0 : Int), D.int IntKind.u8 (0 : Int), D.int IntKind.u8 (0 : Int), D.int IntKind.u8 (0 : Int), D.int IntKind.u8 (0 : Int), D.int IntKind.u8 (0 : Int), D.int IntKind.u8 (0 : Int), D.int IntKind.u8 (0 : Int), D.int IntKind.u8 (0 : Int), D.int IntKind.u8 (0 : Int), D.int IntKind.u8 (0 : Int), D.int IntKind.u8 (0 : Int), D.int IntKind.u8 (0 : Int), D.int IntKind.u8 (0 : Int), D.int IntKind.u8 (0 : Int), D.int IntKind.u8 (0 : Int), D.int IntKind.u8 (0 : Int)] = Ob.row (1 : Nat) R0) ∧ ((LoopsS Try.prog (0 : Nat) (loopN Try.prog (6 : Nat) (0 : Nat)) (J6 l a b R0 (0 : Nat)) (Exit.exit (0 : Nat)) (J6 l a b R1 (512 : Nat)) (180 : Nat)) ∧ (((0 : Nat) = (0 : Nat)) ∧ (((0 : Nat) = (0 : Nat)) ∧ ((R1.length = (512 : Nat)) ∧ (((0 : Nat) < (512 : Nat)) ∧ (((0 : Int) ≤ (0 : Int) ∧ (0 : Int) ≤ (↑(512 : Nat) : Int) ∧ (↑(512 : Nat) : Int) ≤ (↑(512 : Nat) : Int)) ∧ ((List.take (512 : Nat) (List.drop (0 : Nat) R1) = List.map byteD tx) ∧ ((FnOK Try.prog (30 : Nat) [] [] (AV.d (D.agg [D.int IntKind.i64 (0 : Int), D.str [], D.sl []])) []) ∧ ((AV.d (D.sl (List.map actD l)) = AV.d (D.sl (List.map actD l))) ∧ ((AV.ptr (0 : Nat) (0 : Nat) = AV.ptr (0 : Nat) (0 : Nat)) ∧ ((AV.ptr (1 : Nat) (0 : Nat) = AV.ptr (1 : Nat) (0 : Nat)) ∧ ((AV.d (D.str tx) = AV.d (D.str tx)) ∧ ((AV.ptr (1080 : Nat) (0 : Nat) = AV.ptr (1080 : Nat) (0 : Nat)) ∧ ((AV.d (D.int IntKind.i64 (0 : Int)) = AV.d (D.int IntKind.i64 (0 : Int))) ∧ ((Ob.box [AV.d (D.int IntKind.u8 a.a), AV.d (D.int IntKind.u8 a.n), AV.d (D.int IntKind.u8 a.r)] = Ob.box [AV.d (D.int IntKind.u8 a.a), AV.d (D.int IntKind.u8 a.n), AV.d (D.int IntKind.u8 a.r)]) ∧ ((Ob.box [AV.d (D.int IntKind.u8 b.a), AV.d (D.int IntKind.u8 b.n), AV.d (D.int IntKind.u8 b.r)] = Ob.box [AV.d (D.int IntKind.u8 b.a), AV.d (D.int IntKind.u8 b.n), AV.d (D.int IntKind.u8 b.r)]) ∧ ((Ob.box [AV.d (D.int IntKind.i64 (0 : Int)), AV.d (D.str []), AV.d (D.sl [])] = Ob.box [AV.d (D.int IntKind.i64 (0 : Int)), AV.d (D.str []), AV.d (D.sl [])]) ∧ ((LoopsS Try.prog (0 : Nat) (loopN Try.prog (6 : Nat) (1 : Nat)) (K6 l a b tx w0 (0 : Nat)) (Exit.exit (2 : Nat)) (K6 l a b tx st l.length) (180 : Nat)) ∧ (((0 : Int) ≤ a.a ∧ a.a ≤ IntKind.i64.wrap (IntKind.i64.wrap a.a + IntKind.i64.wrap a.n) ∧ IntKind.i64.wrap (IntKind.i64.wrap a.a + IntKind.i64.wrap a.n) ≤ (↑tx.length : Int)) ∧ (((0 : Int) ≤ b.a ∧ b.a ≤ IntKind.i64.wrap (IntKind.i64.wrap b.a + IntKind.i64.wrap b.n) ∧ IntKind.i64.wrap (IntKind.i64.wrap b.a + IntKind.i64.wrap b.n) ≤ (↑tx.length : Int)) ∧ ((FnOK Try.prog (11 : Nat) [AV.d (D.agg [D.int IntKind.i64 st.b, D.str st.r, D.sl (List.map ptD st.p)]), AV.d (D.int IntKind.i64 (IntKind.i64.wrap a.a)), AV.d (D.str (List.drop a.a.toNat (List.take (IntKind.i64.wrap (IntKind.i64.wrap a.a + IntKind.i64.wrap a.n)).toNat tx)))] [] (AV.tup [AV.d (D.agg [D.int IntKind.i64 X.b, D.str X.r, D.sl (List.map ptD X.p)]), AV.d (D.int IntKind.i64 n)]) []) ∧ ((FnOK Try.prog (11 : Nat) [AV.d (D.agg [D.int IntKind.i64 X.b, D.str X.r, D.sl (List.map ptD X.p)]), AV.d (D.int IntKind.i64 (IntKind.i64.wrap b.a)), AV.d (D.str (List.drop b.a.toNat (List.take (IntKind.i64.wrap (IntKind.i64.wrap b.a + IntKind.i64.wrap b.n)).toNat tx)))] [] (AV.tup [AV.d (D.agg [D.int IntKind.i64 Y.b, D.str Y.r, D.sl (List.map ptD Y.p)]), AV.d (D.int IntKind.i64 m)]) []) ∧ ((FnOK Try.prog (11 : Nat) [AV.d (D.agg [D.int IntKind.i64 st.b, D.str st.r, D.sl (List.map ptD st.p)]), AV.d (D.int IntKind.i64 (IntKind.i64.wrap b.a)), AV.d (D.str (List.drop b.a.toNat (List.take (IntKind.i64.wrap (IntKind.i64.wrap b.a + IntKind.i64.wrap b.n)).toNat tx)))] [] (AV.tup [AV.d (D.agg [D.int IntKind.i64 Z.b, D.str Z.r, D.sl (List.map ptD Z.p)]), AV.d (D.int IntKind.i64 i)]) []) ∧ ((FnOK Try.prog (11 : Nat) [AV.d (D.agg [D.int IntKind.i64 Z.b, D.str Z.r, D.sl (List.map ptD Z.p)]), AV.d (D.int IntKind.i64 (IntKind.i64.wrap a.a)), AV.d (D.str (List.drop a.a.toNat (List.take (IntKind.i64.wrap (IntKind.i64.wrap a.a + IntKind.i64.wrap a.n)).toNat tx)))] [] (AV.tup [AV.d (D.agg [D.int IntKind.i64 Y.b, D.str Y.r, D.sl (List.map ptD Y.p)]), AV.d (D.int IntKind.i64 k)]) []) ∧ ((FnOK Try.prog (11 : Nat) [AV.d (D.agg [D.int IntKind.i64 Y.b, D.str Y.r, D.sl (List.map ptD Y.p)]), AV.d (D.int IntKind.i64 (IntKind.i64.wrap b.a)), AV.d (D.str (List.drop b.a.toNat (List.take (IntKind.i64.wrap (IntKind.i64.wrap b.a + IntKind.i64.wrap b.n)).toNat tx)))] [] (AV.tup [AV.d (D.agg [D.int IntKind.i64 Y.b, D.str Y.r, D.sl (List.map ptD Y.p)]), AV.d (D.int IntKind.i64 (0 : Int))]) []) ∧ ((FnOK Try.prog (19 : Nat) [AV.d (D.agg [D.int IntKind.i64 Y.b, D.str Y.r, D.sl (List.map ptD Y.p)]), AV.d (D.agg [D.int IntKind.i64 Y.b, D.str Y.r, D.sl (List.map ptD Y.p)])] [] (AV.d (D.bool true)) []) ∧ ((D.bool true = D.bool true) ∧ ((D.bool (IntKind.i64.wrap (n + m) == IntKind.i64.wrap (i + k)) = D.bool true) ∧ ((D.bool true = D.bool true) ∧ ((FnOK Try.prog (19 : Nat) [AV.d (D.agg [D.int IntKind.i64 Y.b, D.str Y.r, D.sl (List.map ptD Y.p)]), AV.d (D.agg [D.int IntKind.i64 Y.b, D.str Y.r, D.sl (List.map ptD Y.p)])] [] (AV.d (D.bool true)) []) ∧ ((D.bool true = D.bool true) ∧ ((FnOK Try.prog (9 : Nat) [] [] (AV.d (D.bool true)) []) ∧ ((AV.d (D.bool true) = AV.d (D.bool true)) ∧ (True))))))))))))))))))))))))))))))))))))))))))) (h := {chain := true, els := [(7, .arr), (38, .str tx)], H := [(1, [(2, .val (.bool false))]), (16, [(5, .call [] (.tup [.d (rqD X), .d (.int .i64 n)]) [])]), (17, [(5, .call [] (.tup [.d (rqD Y), .d (.int .i64 m)]) [])]), (18, [(5, .call [] (.tup [.d (rqD Z), .d (.int .i64 i)]) [])]), (19, [(5, .call [] (.tup [.d (rqD Y), .d (.int .i64 k)]) [])]), (20, [(5, .call [] (.tup [.d (rqD Y), .d (.int .i64 0)]) [])])], G := [(30, gAns (.d (rqD w0))), (19, gYes), (9, gYes)]}) (subs := [⟨[], [], J6 l a b R0 0, .exit 0, J6 l a b R1 512⟩, ⟨[], [], K6 l a b tx w0 0, .exit 2, K6 l a b tx st l.length⟩]) (ws := []) (ρ := []) (by kernel_rfl) ?_
  have xa := ha.a
  have xn := ha.n
  have ya := hb.a
  have yn := hb.n
  have w1 : IntKind.i64.wrap a.a = a.a := by rw [IntKind.wrap_i64]; omega
  have w2 : IntKind.i64.wrap a.n = a.n := by rw [IntKind.wrap_i64]; omega
  have w3 : IntKind.i64.wrap (a.a + a.n) = a.a + a.n := by rw [IntKind.wrap_i64]; omega
  have w4 : IntKind.i64.wrap b.a = b.a := by rw [IntKind.wrap_i64]; omega
  have w5 : IntKind.i64.wrap b.n = b.n := by rw [IntKind.wrap_i64]; omega
  have w6 : IntKind.i64.wrap (b.a + b.n) = b.a + b.n := by rw [IntKind.wrap_i64]; omega
  have c6 := new30
  have c7 := same19 Y Y (by omega)
  rw [decide_eq_true rfl] at c7
  have hl1 : R1.length = 512 := by rw [hR1, List.length_map]; exact htl
  have te : ∀ n, 512 ≤ n → List.take n R1 = tx.map byteD := fun n hn => by rw [List.take_of_length_le (by rw [hl1]; exact hn), hR1]
  simp only [w1, w2, w3, w4, w5, w6, hnm, List.length_map, hl1, List.drop_zero]
  repeat' (first | with_reducible exact True.intro | with_reducible refine And.intro ?_ ?_ | with_reducible refine condP_dec (fun _ => ?_) (fun _ => ?_) | with_reducible refine condP_eq (fun _ => ?_) (fun _ => ?_) | with_reducible refine condP_ne (fun _ => ?_) (fun _ => ?_) | with_reducible refine condP_not (condP_dec (fun _ => ?_) (fun _ => ?_)) | with_reducible refine condP_not (condP_eq (fun _ => ?_) (fun _ => ?_)) | with_reducible refine condP_not (condP_intro (fun _ => ?_) (fun _ => ?_)) | with_reducible refine condP_intro (fun _ => ?_) (fun _ => ?_))
  all_goals first | exact h1 | exact h2 | exact c1 | exact c2 | exact c3 | exact c4 | exact c5 | exact c6 | exact c7 | exact aw9 | rfl | omega | exact dno (by omega) | (refine congrArg D.bool ?_; simp; done) | exact te _ (by decide) | (rw [hR0]; rfl) | (rw [hR0]; done) | (rw [te _ (by decide)]; done) | skip

/-! ### The pieces' overlay -/
/-- What stays of a piece. -/
def cvr (s : Rq) (k : Int) (d : List UInt8) (j : Int) : Option UInt8 := if rS s ≤ j ∧ j < rLim s then bA ⟨k, d⟩ j else none
theorem put_den {s : Rq} (h : Ok s) (k : Int) (h0 : 0 ≤ k) (h1 : k ≤ 1099511627776) (d : List UInt8) (j : Int) : den (rPut s k d).1 j = (den s j).or (cvr s k d j) := (rPut_ok h k h0 h1 d).2.2.1 j
theorem cvr_of {s t : Rq} (h : rS s = rS t) (k : Int) (d : List UInt8) (j : Int) : cvr s k d j = cvr t k d j := by
  unfold cvr
  rw [h, rLim_of h]
theorem cvr_pc {s : Rq} {t : List UInt8} {x : Act} (hx : x.ok) (ht : t.length = 512) (j : Int) {c : UInt8} (h : cvr s x.a (pc t x.a x.n) j = some c) : bA ⟨0, t⟩ j = some c := by
  have h1 := hx.a
  have h2 := hx.n
  unfold cvr at h
  split at h
  · rw [pc_bA h1.1 h2.1 (by omega)] at h
    split at h
    · exact h
    · cases h
  · cases h
theorem or_swap {x y z : Option UInt8} (h : ∀ c d, y = some c → z = some d → c = d) : (x.or y).or z = (x.or z).or y := by
  cases x with
  | some a => simp
  | none =>
    cases y with
    | none => simp
    | some c =>
      cases z with
      | none => simp
      | some d => simp [h c d rfl rfl]
theorem or_or {x y z : Option UInt8} (h : ∀ c d, y = some c → z = some d → c = d) : ((x.or y).or z).or y = (x.or y).or z := by
  cases x <;> cases y <;> cases z <;> simp_all
theorem rHeld_put {s : Rq} (h : Ok s) (k : Int) (h0 : 0 ≤ k) (h1 : k ≤ 1099511627776) (d : List UInt8) : rHeld (rPut s k d).1 ≤ rHeld s + d.length ∧ 0 ≤ (rPut s k d).2 ∧ (rPut s k d).2 ≤ d.length ∧ (rHeld (rPut s k d).1 : Int) = rHeld s + (rPut s k d).2 := by
  obtain ⟨i1, i2, i3, i4⟩ := rPut_ok h k h0 h1 d
  have e := put_same h k h0 h1 d
  obtain ⟨-, -, -, -, -, j6, j7⟩ := dJ_ok h k d d.length (Nat.le_refl _)
  rw [List.take_length] at j6 j7
  have e2 : (rPut s k d).2 = (dJ s k d).2.1 := by rw [e]
  omega
theorem rRead_ok {s : Rq} (h : Ok s) (n : Int) : Ok (rRead s n).1 ∧ rHeld (rRead s n).1 ≤ rHeld s := by
  unfold rRead
  split
  · exact ⟨h, Nat.le_refl _⟩
  · have hb := h.b
    refine ⟨⟨?_, h.srt, fun y hy => ?_⟩, ?_⟩
    · simp only [List.length_drop]; omega
    · have h1 := h.p y hy
      refine ⟨h1.1, ?_⟩
      have h2 := h1.2
      unfold rLim at h2 ⊢
      simp only [List.length_drop]
      omega
    · rw [rHeld_def, rHeld_def]
      simp only [List.length_drop]
      omega
/-- Any acts leave a state that may be. -/
def rAct (t : List UInt8) (s : Rq) (x : Act) : Rq := (rRead (rPut s x.a (pc t x.a x.n)).1 x.r).1
theorem rAct_ok {t : List UInt8} (ht : t.length = 512) {s : Rq} (h : Ok s) {x : Act} (hx : x.ok) : Ok (rAct t s x) ∧ rHeld (rAct t s x) ≤ rHeld s + 255 := by
  have xa := hx.a
  have xn := hx.n
  obtain ⟨i1, -⟩ := rPut_ok h x.a xa.1 (by omega) (pc t x.a x.n)
  have i2 := (rHeld_put h x.a xa.1 (by omega) (pc t x.a x.n)).1
  rw [pc_len xa.1 xn.1 (by omega)] at i2
  have i3 := rRead_ok i1 x.r
  exact ⟨i3.1, by have := i3.2; unfold rAct; omega⟩
theorem acts_ok {t : List UInt8} (ht : t.length = 512) {l : List Act} (hx : ∀ x ∈ l, x.ok) : ∀ j, j ≤ l.length → Ok ((l.take j).foldl (rAct t) w0) ∧ rHeld ((l.take j).foldl (rAct t) w0) ≤ 255 * j
  | 0, _ => ⟨flat_ok (n := 0) (by omega) (by simp), by simp; decide⟩
  | j + 1, hj => by
    obtain ⟨i1, i2⟩ := acts_ok ht hx j (by omega)
    have hn := get_of (l := l) (j := j) (by omega)
    rw [take_snoc hn, List.foldl_append]
    obtain ⟨k1, k2⟩ := rAct_ok ht i1 (hx _ (get_mem hn))
    refine ⟨k1, ?_⟩
    show rHeld (rAct t _ _) ≤ _
    omega
theorem recvqOrder_ok (x0 : D) (s0 : ∃ ds, CK.hasL [.sl true [.int .u8, .int .u8, .int .u8]] ds ∧ (if false then x0 = .agg ds else ds = [x0])) (x1 : D) (s1 : ∃ ds, CK.hasL [.int .u8, .int .u8, .int .u8] ds ∧ (if true then x1 = .agg ds else ds = [x1])) (x2 : D) (s2 : ∃ ds, CK.hasL [.int .u8, .int .u8, .int .u8] ds ∧ (if true then x2 = .agg ds else ds = [x2])) :
    FnOK Try.prog 6 [.d x0, .d x1, .d x2] [] (.d (.bool true)) [] := by
  have act : ∀ y, (∃ cs, CK.hasL [.int .u8, .int .u8, .int .u8] cs ∧ (if true = true then y = .agg cs else cs = [y])) → ∃ x, y = actD x ∧ x.ok := fun y h => by
    obtain ⟨ds, rfl, h0⟩ := ckA h
    obtain ⟨d1, r1, rfl, g1, h1⟩ := hasL_cons h0
    obtain ⟨v1, rfl, a1, b1⟩ := has_u8 g1
    obtain ⟨d2, r2, rfl, g2, h2⟩ := hasL_cons h1
    obtain ⟨v2, rfl, a2, b2⟩ := has_u8 g2
    obtain ⟨d3, r3, rfl, g3, h3⟩ := hasL_cons h2
    obtain ⟨v3, rfl, a3, b3⟩ := has_u8 g3
    obtain rfl := hasL_nil h3
    exact ⟨⟨v1, v2, v3⟩, rfl, ⟨a1, b1⟩, ⟨a2, b2⟩, ⟨a3, b3⟩⟩
  obtain ⟨l, rfl, -, hK⟩ := has_slOf actD Act.ok (ck1 s0) act
  obtain ⟨a, rfl, ha⟩ := act x1 s1
  obtain ⟨b, rfl, hb⟩ := act x2 s2
  by_cases hl : l.length ≤ 60
  · have ht := txL_len 5
    generalize htx : txL 5 = t at ht
    have xa := ha.a
    have xn := ha.n
    have ya := hb.a
    have yn := hb.n
    have hpa := pc_len (t := t) xa.1 xn.1 (by omega)
    have hpb := pc_len (t := t) ya.1 yn.1 (by omega)
    obtain ⟨o0, o1⟩ := acts_ok ht hK l.length (Nat.le_refl _)
    have hL : Loops Try.prog 0 (loopN Try.prog 6 1) ((K6 l a b t w0 0).as 180) (.exit 2) ((K6 l a b t ((l.take l.length).foldl (rAct t) w0) l.length).as 180) := by
      refine loops_n (I := fun j => (K6 l a b t ((l.take j).foldl (rAct t) w0) j).as 180) (by simp) l.length 0 (by omega) (fun j _ hj => ?_) (q6 l a b t _)
      have hn := get_of hj
      obtain ⟨p1, p2⟩ := acts_ok ht hK j (by omega)
      have hx := hK _ (List.getElem_mem hj)
      have za := hx.a
      have zn := hx.n
      have hpl := pc_len (t := t) za.1 zn.1 (by omega)
      show Runs _ _ _ _ _ ((K6 l a b t ((l.take (j + 1)).foldl (rAct t) w0) (j + 1)).as _)
      rw [take_snoc hn, List.foldl_append]
      obtain ⟨m1, m2⟩ := rHeld_put p1 l[j].a za.1 (by omega) (pc t l[j].a l[j].n)
      have q1 := (rPut_ok p1 l[j].a za.1 (by omega) (pc t l[j].a l[j].n)).1
      have e1 := put11 _ (ok_rb p1 (by omega)) (by have := ok_len p1 (by omega); omega) l[j].a (pc t l[j].a l[j].n) (by omega)
      have e2 := read13 _ (ok_rb q1 (by omega)) (by have := ok_len q1 (by omega); omega) l[j].r
      exact r6 l hl a b t ht _ _ _ _ _ j _ hx hn e1 e2
    generalize (l.take l.length).foldl (rAct t) w0 = st at *
    have A := rPut_ok o0 a.a xa.1 (by omega) (pc t a.a a.n)
    have A' := rHeld_put o0 a.a xa.1 (by omega) (pc t a.a a.n)
    have B := rPut_ok A.1 b.a ya.1 (by omega) (pc t b.a b.n)
    have B' := rHeld_put A.1 b.a ya.1 (by omega) (pc t b.a b.n)
    have C := rPut_ok o0 b.a ya.1 (by omega) (pc t b.a b.n)
    have C' := rHeld_put o0 b.a ya.1 (by omega) (pc t b.a b.n)
    have D := rPut_ok C.1 a.a xa.1 (by omega) (pc t a.a a.n)
    have D' := rHeld_put C.1 a.a xa.1 (by omega) (pc t a.a a.n)
    have E := rPut_ok D.1 b.a ya.1 (by omega) (pc t b.a b.n)
    have E' := rHeld_put D.1 b.a ya.1 (by omega) (pc t b.a b.n)
    have agree : ∀ (s s' : Rq) (j : Int) (c d : UInt8), cvr s a.a (pc t a.a a.n) j = some c → cvr s' b.a (pc t b.a b.n) j = some d → c = d := fun s s' j c d h1 h2 => by
      have g1 := cvr_pc ha ht j h1
      have g2 := cvr_pc hb ht j h2
      rw [g1] at g2
      exact Option.some.inj g2
    have eBD : (rPut (rPut st a.a (pc t a.a a.n)).1 b.a (pc t b.a b.n)).1 = (rPut (rPut st b.a (pc t b.a b.n)).1 a.a (pc t a.a a.n)).1 := by
      refine den_inj B.1 D.1 (by rw [B.2.1, A.2.1, D.2.1, C.2.1]) fun j => ?_
      have hB : den (rPut (rPut st a.a (pc t a.a a.n)).1 b.a (pc t b.a b.n)).1 j = ((den st j).or (cvr st a.a (pc t a.a a.n) j)).or (cvr st b.a (pc t b.a b.n) j) := by
        rw [put_den A.1 b.a ya.1 (by omega), put_den o0 a.a xa.1 (by omega), cvr_of A.2.1]
      have hD : den (rPut (rPut st b.a (pc t b.a b.n)).1 a.a (pc t a.a a.n)).1 j = ((den st j).or (cvr st b.a (pc t b.a b.n) j)).or (cvr st a.a (pc t a.a a.n) j) := by
        rw [put_den C.1 a.a xa.1 (by omega), put_den o0 b.a ya.1 (by omega), cvr_of C.2.1]
      rw [hB, hD]
      exact or_swap fun c d h1 h2 => agree _ _ j c d h1 h2
    have eE : (rPut (rPut (rPut st b.a (pc t b.a b.n)).1 a.a (pc t a.a a.n)).1 b.a (pc t b.a b.n)).1 = (rPut (rPut st b.a (pc t b.a b.n)).1 a.a (pc t a.a a.n)).1 := by
      refine den_inj E.1 D.1 E.2.1 fun j => ?_
      have hD : den (rPut (rPut st b.a (pc t b.a b.n)).1 a.a (pc t a.a a.n)).1 j = ((den st j).or (cvr st b.a (pc t b.a b.n) j)).or (cvr st a.a (pc t a.a a.n) j) := by
        rw [put_den C.1 a.a xa.1 (by omega), put_den o0 b.a ya.1 (by omega), cvr_of C.2.1]
      rw [put_den D.1 b.a ya.1 (by omega), cvr_of D.2.1, cvr_of C.2.1, hD]
      exact or_or fun c d h1 h2 => (agree _ _ j d c h2 h1).symm
    have c1 := put11 st (ok_rb o0 (by omega)) (by have := ok_len o0 (by omega); omega) a.a (pc t a.a a.n) (by omega)
    have c2 := put11 _ (ok_rb A.1 (by omega)) (by have := ok_len A.1 (by omega); omega) b.a (pc t b.a b.n) (by omega)
    have c3 := put11 st (ok_rb o0 (by omega)) (by have := ok_len o0 (by omega); omega) b.a (pc t b.a b.n) (by omega)
    have c4 := put11 _ (ok_rb C.1 (by omega)) (by have := ok_len C.1 (by omega); omega) a.a (pc t a.a a.n) (by omega)
    have c5 := put11 _ (ok_rb D.1 (by omega)) (by have := ok_len D.1 (by omega); omega) b.a (pc t b.a b.n) (by omega)
    have eE2 : (rPut (rPut (rPut st b.a (pc t b.a b.n)).1 a.a (pc t a.a a.n)).1 b.a (pc t b.a b.n)).2 = 0 := by
      have := E'.2.2.2
      rw [eE] at this
      omega
    rw [eE, eE2] at c5
    rw [eBD] at c2
    have h6 := l6 l a b
    rw [tR_end, htx] at h6
    refine ord6 l hl a b ha hb t ht st _ _ _ _ _ _ _ ?_ (ok_len D.1 (by omega)) c1 c2 c3 c4 c5 _ _ (tR_zero 5) rfl h6 hL
    have := B'.2.2.2
    have := A'.2.2.2
    have := C'.2.2.2
    have := D'.2.2.2
    rw [eBD] at B'
    have hb2 := B'.2.2.2
    refine congrArg IntKind.i64.wrap ?_
    omega
  · exact ord6n l hl a b
end Go.Proofs.Ytmnglolholdmaaa
