/-
laws 01: numbers laid: contracts of the program's functions and of the document's. Bytes less than 2^46.
-/
import Derived.Test.YtekhpiiediooiaaC01S1
set_option linter.unusedSimpArgs false
set_option linter.unusedVariables false
namespace Go.Proofs.Ytekhpiiediooiaa.C01
open Sx Go.RowKit

theorem pow8 (e : Nat) : (2 : Int) ^ (8 * e) = ((256 ^ e : Nat) : Int) := by
  rw [Int.pow_mul]; exact (Int.natCast_pow 256 e).symm
theorem shr_nat (m e : Nat) : (m : Int).fdiv (2 ^ (8 * e)) = ((m / 256 ^ e : Nat) : Int) := by
  rw [pow8, Int.fdiv_eq_ediv_of_nonneg _ (Int.natCast_nonneg _)]; rfl
theorem div_256 {q : Nat} (h : q < 9223372036854775808) : IntKind.i64.wrap ((q : Int).tdiv 256) = ((q / 256 : Nat) : Int) := by
  rw [Int.tdiv_eq_ediv_of_nonneg (Int.natCast_nonneg _), IntKind.wrap_i64]; omega
theorem fits_shr {n k : Int} (h0 : n ≥ 0) (h1 : k ≥ 1) (h7 : k ≤ 7) : (n.fdiv (2 ^ min (IntKind.i64.wrap (8 * k)).toNat 64) == 0) = cFits n k := by
  obtain ⟨m, rfl⟩ := Int.eq_ofNat_of_zero_le h0
  obtain ⟨e, rfl⟩ := Int.eq_ofNat_of_zero_le (show 0 ≤ k by omega)
  have hw : min (IntKind.i64.wrap (8 * (e : Int))).toNat 64 = 8 * e := by rw [IntKind.wrap_i64]; omega
  rw [hw, shr_nat]
  have hp : 0 < 256 ^ e := Nat.pow_pos (by omega)
  have hd : m / 256 ^ e = 0 ↔ m < 256 ^ e := Nat.div_eq_zero_iff_lt hp
  have hc : (256 : Int) ^ e = ((256 ^ e : Nat) : Int) := (Int.natCast_pow 256 e).symm
  show _ = decide ((0 : Int) ≤ (m : Int) ∧ (1 : Int) ≤ (e : Int) ∧ (e : Int) ≤ 7 ∧ (m : Int) < 256 ^ ((e : Int).toNat))
  rw [Int.toNat_natCast, hc, Bool.eq_iff_iff, beq_iff_eq, decide_eq_true_eq]
  omega
theorem fits_no {n k : Int} (h : ¬ (0 ≤ n ∧ 1 ≤ k ∧ k ≤ 7)) : cFits n k = false := by
  unfold cFits; rw [decide_eq_false_iff_not]; omega
theorem fits_yes {n k : Int} (h : cFits n k = true) : 0 ≤ n ∧ 1 ≤ k ∧ k ≤ 7 := by
  unfold cFits at h; rw [decide_eq_true_eq] at h; exact ⟨h.1, h.2.1, h.2.2.1⟩
set_option maxRecDepth 100000 in
set_option maxHeartbeats 1000000 in
theorem fits24 (n k : Int) : FnOK Try.prog 42 ([.d (.int .i64 n), .d (.int .i64 k)]) ([]) (.d (.bool (cFits n k))) ([]) := by
  refine fnOK_wp (p := condP (decide (n ≥ (0 : Int))) (condP (decide (k ≥ (1 : Int))) (condP (decide (k ≤ (7 : Int))) ((D.bool (decide (n ≥ (0 : Int))) = D.bool true) ∧ ((D.bool (decide (k ≥ (1 : Int))) = D.bool true) ∧ ((D.bool (decide (k ≤ (7 : Int))) = D.bool true) ∧ (((0 : Int) ≤ IntKind.i64.wrap ((8 : Int) * k)) ∧ ((AV.d (D.bool (n.fdiv ((2 : Int) ^ min (IntKind.i64.wrap ((8 : Int) * k)).toNat (64 : Nat)) == (0 : Int))) = AV.d (D.bool (cFits n k))) ∧ (True)))))) ((D.bool (decide (n ≥ (0 : Int))) = D.bool true) ∧ ((D.bool (decide (k ≥ (1 : Int))) = D.bool true) ∧ ((D.bool (decide (k ≤ (7 : Int))) = D.bool false) ∧ ((AV.d (D.bool false) = AV.d (D.bool (cFits n k))) ∧ (True)))))) ((D.bool (decide (n ≥ (0 : Int))) = D.bool true) ∧ ((D.bool (decide (k ≥ (1 : Int))) = D.bool false) ∧ ((D.bool false = D.bool false) ∧ ((AV.d (D.bool false) = AV.d (D.bool (cFits n k))) ∧ (True)))))) ((D.bool (decide (n ≥ (0 : Int))) = D.bool false) ∧ ((D.bool false = D.bool false) ∧ ((D.bool false = D.bool false) ∧ ((AV.d (D.bool false) = AV.d (D.bool (cFits n k))) ∧ (True)))))) (h := {}) (subs := []) (ws := []) (ρ := []) (by kernel_rfl) ?_
  repeat' (first | with_reducible exact True.intro | with_reducible refine And.intro ?_ ?_ | with_reducible refine condP_dec (fun _ => ?_) (fun _ => ?_) | with_reducible refine condP_eq (fun _ => ?_) (fun _ => ?_) | with_reducible refine condP_ne (fun _ => ?_) (fun _ => ?_) | with_reducible refine condP_not (condP_dec (fun _ => ?_) (fun _ => ?_)) | with_reducible refine condP_not (condP_eq (fun _ => ?_) (fun _ => ?_)) | with_reducible refine condP_not (condP_intro (fun _ => ?_) (fun _ => ?_)) | with_reducible refine condP_intro (fun _ => ?_) (fun _ => ?_))
  all_goals first | rfl | exact dyes (by assumption) | exact dno (by assumption) | exact dbool (fits_shr (by assumption) (by assumption) (by assumption)) | exact dbool (fits_no (by omega)).symm | (rw [IntKind.wrap_i64]; omega)

def I25 (m : Nat) (k : Int) (j : Nat) : St := ⟨[(0, .d (.int .i64 ((m / 256 ^ j : Nat) : Int))), (1, .d (.int .i64 k)), (5, .d (.int .i64 j))], []⟩
set_option maxRecDepth 100000 in
set_option maxHeartbeats 1000000 in
theorem r25 (m : Nat) (hm : m < 9223372036854775808) (k : Int) (h7 : k ≤ 7) (j : Nat) (hj : (j : Int) < k) : Runs Try.prog 0 (loopN Try.prog 44 0) (St.as (I25 m k j) 25) (.normal) (St.as (I25 m k (j+1)) 25) := by
  refine round_wp (p := condP (decide ((↑j : Int) < k)) (((256 : Int) ≠ (0 : Int)) ∧ ((AV.d (D.int IntKind.i64 (IntKind.i64.wrap ((↑(m / (256 : Nat) ^ j) : Int).tdiv (256 : Int)))) = AV.d (D.int IntKind.i64 (↑(m / (256 : Nat) ^ (j + (1 : Nat))) : Int))) ∧ ((AV.d (D.int IntKind.i64 k) = AV.d (D.int IntKind.i64 k)) ∧ ((AV.d (D.int IntKind.i64 (IntKind.i64.wrap ((↑j : Int) + (1 : Int)))) = AV.d (D.int IntKind.i64 (↑(j + (1 : Nat)) : Int))) ∧ (True))))) (False)) (h := {}) (subs := []) (ws := []) (ρ := []) (by kernel_rfl) ?_
  have hv : IntKind.i64.wrap ((j : Int) + 1) = ((j + 1 : Nat) : Int) := by rw [IntKind.wrap_i64]; omega
  have hd : m / 256 ^ (j + 1) = m / 256 ^ j / 256 := by rw [Nat.pow_succ, Nat.div_div_eq_div_mul]
  have hl : m / 256 ^ j ≤ m := Nat.div_le_self _ _
  have hw : IntKind.i64.wrap (((m / 256 ^ j : Nat) : Int).tdiv 256) = ((m / 256 ^ (j + 1) : Nat) : Int) := by
    rw [hd]; exact div_256 (Nat.lt_of_le_of_lt hl hm)
  rw [hv, hw]
  repeat' (first | with_reducible exact True.intro | with_reducible refine And.intro ?_ ?_ | with_reducible refine condP_dec (fun _ => ?_) (fun _ => ?_) | with_reducible refine condP_eq (fun _ => ?_) (fun _ => ?_) | with_reducible refine condP_ne (fun _ => ?_) (fun _ => ?_) | with_reducible refine condP_not (condP_dec (fun _ => ?_) (fun _ => ?_)) | with_reducible refine condP_not (condP_eq (fun _ => ?_) (fun _ => ?_)) | with_reducible refine condP_not (condP_intro (fun _ => ?_) (fun _ => ?_)) | with_reducible refine condP_intro (fun _ => ?_) (fun _ => ?_))
  all_goals first | rfl | decide | omega | (exfalso; omega)

set_option maxRecDepth 100000 in
set_option maxHeartbeats 1000000 in
theorem q25 (m : Nat) (k : Int) (h0 : 0 ≤ k) : Runs Try.prog 0 (loopN Try.prog 44 0) (St.as (I25 m k k.toNat) 25) (.exit 0) (St.as (I25 m k k.toNat) 25) := by
  refine round_wp (p := condP (decide ((↑k.toNat : Int) < k)) (((256 : Int) ≠ (0 : Int)) ∧ (False)) ((AV.d (D.int IntKind.i64 (↑(m / (256 : Nat) ^ k.toNat) : Int)) = AV.d (D.int IntKind.i64 (↑(m / (256 : Nat) ^ k.toNat) : Int))) ∧ ((AV.d (D.int IntKind.i64 k) = AV.d (D.int IntKind.i64 k)) ∧ ((AV.d (D.int IntKind.i64 (↑k.toNat : Int)) = AV.d (D.int IntKind.i64 (↑k.toNat : Int))) ∧ (True))))) (h := {}) (subs := []) (ws := []) (ρ := []) (by kernel_rfl) ?_
  repeat' (first | with_reducible exact True.intro | with_reducible refine And.intro ?_ ?_ | with_reducible refine condP_dec (fun _ => ?_) (fun _ => ?_) | with_reducible refine condP_eq (fun _ => ?_) (fun _ => ?_) | with_reducible refine condP_ne (fun _ => ?_) (fun _ => ?_) | with_reducible refine condP_not (condP_dec (fun _ => ?_) (fun _ => ?_)) | with_reducible refine condP_not (condP_eq (fun _ => ?_) (fun _ => ?_)) | with_reducible refine condP_not (condP_intro (fun _ => ?_) (fun _ => ?_)) | with_reducible refine condP_intro (fun _ => ?_) (fun _ => ?_))
  all_goals first | rfl | omega

theorem l25 (m : Nat) (hm : m < 9223372036854775808) (k : Int) (h0 : 0 ≤ k) (h7 : k ≤ 7) : Loops Try.prog 0 (loopN Try.prog 44 0) ((I25 m k 0).as 25) (.exit 0) ((I25 m k k.toNat).as 25) :=
  loops_n (I := fun j => (I25 m k j).as 25) (by simp) k.toNat 0 (by omega) (fun j _ hj => r25 m hm k h7 j (by omega)) (q25 m k h0)
set_option maxRecDepth 100000 in
set_option maxHeartbeats 1000000 in
theorem fits25n (n k : Int) (h : ¬ (0 ≤ n ∧ 1 ≤ k ∧ k ≤ 7)) : FnOK Try.prog 44 ([.d (.int .i64 n), .d (.int .i64 k)]) ([]) (.d (.bool (cFits n k))) ([]) := by
  refine fnOK_wp (p := condP (decide (n < (0 : Int))) ((D.bool (decide (n < (0 : Int))) = D.bool true) ∧ ((D.bool true = D.bool true) ∧ ((AV.d (D.bool false) = AV.d (D.bool (cFits n k))) ∧ (True)))) (condP (decide (k < (1 : Int))) ((D.bool (decide (n < (0 : Int))) = D.bool false) ∧ ((D.bool (decide (k < (1 : Int))) = D.bool true) ∧ ((AV.d (D.bool false) = AV.d (D.bool (cFits n k))) ∧ (True)))) ((D.bool (decide (n < (0 : Int))) = D.bool false) ∧ ((D.bool (decide (k < (1 : Int))) = D.bool false) ∧ (condP (decide (k > (7 : Int))) ((AV.d (D.bool false) = AV.d (D.bool (cFits n k))) ∧ (True)) (False)))))) (h := {}) (subs := []) (ws := []) (ρ := []) (by kernel_rfl) ?_
  rw [fits_no h]
  repeat' (first | with_reducible exact True.intro | with_reducible refine And.intro ?_ ?_ | with_reducible refine condP_dec (fun _ => ?_) (fun _ => ?_) | with_reducible refine condP_eq (fun _ => ?_) (fun _ => ?_) | with_reducible refine condP_ne (fun _ => ?_) (fun _ => ?_) | with_reducible refine condP_not (condP_dec (fun _ => ?_) (fun _ => ?_)) | with_reducible refine condP_not (condP_eq (fun _ => ?_) (fun _ => ?_)) | with_reducible refine condP_not (condP_intro (fun _ => ?_) (fun _ => ?_)) | with_reducible refine condP_intro (fun _ => ?_) (fun _ => ?_))
  all_goals first | rfl | exact dyes (by assumption) | exact dno (by assumption) | omega

set_option maxRecDepth 100000 in
set_option maxHeartbeats 1000000 in
theorem fits25y (m : Nat) (hm : m < 9223372036854775808) (k : Int) (h1 : 1 ≤ k) (h7 : k ≤ 7) : FnOK Try.prog 44 ([.d (.int .i64 m), .d (.int .i64 k)]) ([]) (.d (.bool (cFits m k))) ([]) := by
  refine fnOK_wp (p := condP (decide (k < (1 : Int))) ((D.bool false = D.bool false) ∧ ((D.bool (decide (k < (1 : Int))) = D.bool true) ∧ ((AV.d (D.bool false) = AV.d (D.bool (cFits (↑m : Int) k))) ∧ (True)))) ((D.bool false = D.bool false) ∧ ((D.bool (decide (k < (1 : Int))) = D.bool false) ∧ (condP (decide (k > (7 : Int))) ((AV.d (D.bool false) = AV.d (D.bool (cFits (↑m : Int) k))) ∧ (True)) ((AV.d (D.int IntKind.i64 (↑m : Int)) = AV.d (D.int IntKind.i64 (↑(m / (1 : Nat)) : Int))) ∧ ((AV.d (D.int IntKind.i64 k) = AV.d (D.int IntKind.i64 k)) ∧ ((AV.d (D.int IntKind.i64 (0 : Int)) = AV.d (D.int IntKind.i64 (0 : Int))) ∧ ((LoopsS Try.prog (0 : Nat) (loopN Try.prog (44 : Nat) (0 : Nat)) (I25 m k (0 : Nat)) (Exit.exit (0 : Nat)) (I25 m k k.toNat) (25 : Nat)) ∧ ((AV.d (D.bool ((↑(m / (256 : Nat) ^ k.toNat) : Int) == (0 : Int))) = AV.d (D.bool (cFits (↑m : Int) k))) ∧ (True)))))))))) (h := {}) (subs := [⟨[], [], I25 m k 0, .exit 0, I25 m k k.toNat⟩]) (ws := []) (ρ := []) (by kernel_rfl) ?_
  have hf : (((m / 256 ^ k.toNat : Nat) : Int) == 0) = cFits m k := by
    have := fits_shr (n := m) (k := k) (by omega) h1 h7
    obtain ⟨e, rfl⟩ := Int.eq_ofNat_of_zero_le (show 0 ≤ k by omega)
    have hw : min (IntKind.i64.wrap (8 * (e : Int))).toNat 64 = 8 * e := by rw [IntKind.wrap_i64]; omega
    rw [hw, shr_nat] at this
    rw [Int.toNat_natCast]; exact this
  rw [hf]
  have hl := l25 m hm k (by omega) h7
  repeat' (first | with_reducible exact True.intro | with_reducible refine And.intro ?_ ?_ | with_reducible refine condP_dec (fun _ => ?_) (fun _ => ?_) | with_reducible refine condP_eq (fun _ => ?_) (fun _ => ?_) | with_reducible refine condP_ne (fun _ => ?_) (fun _ => ?_) | with_reducible refine condP_not (condP_dec (fun _ => ?_) (fun _ => ?_)) | with_reducible refine condP_not (condP_eq (fun _ => ?_) (fun _ => ?_)) | with_reducible refine condP_not (condP_intro (fun _ => ?_) (fun _ => ?_)) | with_reducible refine condP_intro (fun _ => ?_) (fun _ => ?_))
  all_goals first | rfl | exact dyes (by assumption) | exact dno (by assumption) | exact hl | (exfalso; omega) | (refine dint ?_; simp; done) | omega

theorem fits25 (n k : Int) (h : n < 9223372036854775808) : FnOK Try.prog 44 [.d (.int .i64 n), .d (.int .i64 k)] [] (.d (.bool (cFits n k))) [] := by
  by_cases g : 0 ≤ n ∧ 1 ≤ k ∧ k ≤ 7
  · obtain ⟨m, rfl⟩ := Int.eq_ofNat_of_zero_le g.1
    exact fits25y m (by omega) k g.2.1 g.2.2
  · exact fits25n n k g

/-! ### A copy -/
set_option maxRecDepth 100000 in
set_option maxHeartbeats 1000000 in
theorem clone_nil (a : Option Addr) (c : Nat) : FnOK Try.prog 41 ([.raw (.slice a 0 c)]) ([]) (.own 0 1) ([.row 1 []]) := by
  refine fnOK_wp (p := condP (a.isNone) ((AV.own (900 : Nat) (1 : Nat) = AV.own (900 : Nat) (1 : Nat)) ∧ ((Ob.row (1 : Nat) [] = Ob.row (1 : Nat) []) ∧ (True))) (((0 : Nat) ≤ (140737488355328 : Nat)) ∧ ((∀ (e : D), e ∈ [] → e.cells.length = (1 : Nat)) ∧ ((AV.own (1056 : Nat) (1 : Nat) = AV.own (1056 : Nat) (1 : Nat)) ∧ ((Ob.row (1 : Nat) [] = Ob.row (1 : Nat) []) ∧ (True)))))) (h := {}) (subs := []) (ws := []) (ρ := []) (by kernel_rfl) ?_
  repeat' (first | with_reducible exact True.intro | with_reducible refine And.intro ?_ ?_ | with_reducible refine condP_dec (fun _ => ?_) (fun _ => ?_) | with_reducible refine condP_eq (fun _ => ?_) (fun _ => ?_) | with_reducible refine condP_ne (fun _ => ?_) (fun _ => ?_) | with_reducible refine condP_not (condP_dec (fun _ => ?_) (fun _ => ?_)) | with_reducible refine condP_not (condP_eq (fun _ => ?_) (fun _ => ?_)) | with_reducible refine condP_not (condP_intro (fun _ => ?_) (fun _ => ?_)) | with_reducible refine condP_intro (fun _ => ?_) (fun _ => ?_))
  all_goals first | rfl | decide | (simp; done)

set_option maxRecDepth 100000 in
set_option maxHeartbeats 1000000 in
theorem clone_more (b : List UInt8) (hb : b ≠ []) (hn : b.length < 70368744177664) : FnOK Try.prog 41 ([.d (.sl (b.map byteD))]) ([]) (.own 0 1) ([.row 1 (b.map byteD)]) := by
  refine fnOK_wp (p := (List.map byteD b ≠ []) ∧ ((((0 : Nat) + (List.map byteD b).length) * (1 : Nat) ≤ (140737488355328 : Nat)) ∧ ((∀ (e : D), e ∈ List.map byteD b → e.cells.length = (1 : Nat)) ∧ ((AV.own (1056 : Nat) (1 : Nat) = AV.own (1056 : Nat) (1 : Nat)) ∧ ((Ob.row (1 : Nat) ([] ++ List.map byteD b) = Ob.row (1 : Nat) (List.map byteD b)) ∧ (True)))))) (h := {}) (subs := []) (ws := []) (ρ := []) (by kernel_rfl) ?_
  repeat' (first | with_reducible exact True.intro | with_reducible refine And.intro ?_ ?_ | with_reducible refine condP_dec (fun _ => ?_) (fun _ => ?_) | with_reducible refine condP_eq (fun _ => ?_) (fun _ => ?_) | with_reducible refine condP_ne (fun _ => ?_) (fun _ => ?_) | with_reducible refine condP_not (condP_dec (fun _ => ?_) (fun _ => ?_)) | with_reducible refine condP_not (condP_eq (fun _ => ?_) (fun _ => ?_)) | with_reducible refine condP_not (condP_intro (fun _ => ?_) (fun _ => ?_)) | with_reducible refine condP_intro (fun _ => ?_) (fun _ => ?_))
  all_goals first | rfl | decide | (simp; omega) | (simp [hb]; done) | (simp [D.cells, byteD]; done)

theorem clone29 (b : List UInt8) (hn : b.length < 70368744177664) : FnOK Try.prog 41 [.d (.sl (b.map byteD))] [] (.own 0 1) [.row 1 (b.map byteD)] := by
  cases b with
  | nil => exact fnOK_nil fun a c => clone_nil a c
  | cons x r => exact clone_more (x :: r) (by simp) hn

/-! ### Numbers laid -/
theorem shr_byte {m k j : Nat} (hk : k ≤ 7) (hj : j < k) : 0 ≤ IntKind.i64.wrap (8 * IntKind.i64.wrap (IntKind.i64.wrap ((k : Int) - 1) - (j : Int))) ∧
    IntKind.u8.wrap ((m : Int).fdiv (2 ^ min (IntKind.i64.wrap (8 * IntKind.i64.wrap (IntKind.i64.wrap ((k : Int) - 1) - (j : Int)))).toNat 64)) = ((b8 (m / 256 ^ (k - 1 - j))).toNat : Int) := by
  have hw : IntKind.i64.wrap (8 * IntKind.i64.wrap (IntKind.i64.wrap ((k : Int) - 1) - (j : Int))) = ((8 * (k - 1 - j) : Nat) : Int) := by simp only [IntKind.wrap_i64]; omega
  rw [hw, Int.toNat_natCast, show min (8 * (k - 1 - j)) 64 = 8 * (k - 1 - j) by omega, shr_nat, b8_nat, IntKind.wrap_u8]
  refine ⟨by omega, ?_⟩
  generalize m / 256 ^ (k - 1 - j) = q
  omega
theorem BE_succ {m k j : Nat} (hj : j < k) : (cBE k m).take (j + 1) = (cBE k m).take j ++ [b8 (m / 256 ^ (k - 1 - j))] := by
  rw [List.take_add_one, cBE_get k m j hj]; rfl
def I22 (b : List UInt8) (m k : Nat) (j : Nat) : St := ⟨[(1, .d (.int .i64 m)), (2, .d (.int .i64 k)), (7, .own 1 1), (16, .d (.int .i64 k)), (17, .d (.int .i64 j))], [(1, .row 1 ((b ++ (cBE k m).take j).map byteD))]⟩
theorem sizes1 (l : List UInt8) : ∀ e ∈ l.map byteD, e.cells.length = 1 := by
  intro e he; obtain ⟨c, -, rfl⟩ := List.mem_map.1 he; rfl
set_option maxRecDepth 100000 in
set_option maxHeartbeats 1000000 in
theorem r22 (b : List UInt8) (hb : b.length < 70368744177600) (m k : Nat) (hk : k ≤ 7) (j : Nat) (hj : j < k) : Runs Try.prog 0 (loopN Try.prog 24 0) (St.as (I22 b m k j) 33) (.normal) (St.as (I22 b m k (j+1)) 33) := by
  refine round_wp (p := condP (decide ((↑j : Int) < (↑k : Int))) (((0 : Int) ≤ IntKind.i64.wrap ((8 : Int) * IntKind.i64.wrap (IntKind.i64.wrap ((↑k : Int) - (1 : Int)) - (↑j : Int)))) ∧ ((((List.map byteD (b ++ List.take j (cBE k m))).length + [D.int IntKind.u8 (IntKind.u8.wrap ((↑m : Int).fdiv ((2 : Int) ^ min (IntKind.i64.wrap ((8 : Int) * IntKind.i64.wrap (IntKind.i64.wrap ((↑k : Int) - (1 : Int)) - (↑j : Int)))).toNat (64 : Nat))))].length) * (1 : Nat) ≤ (140737488355328 : Nat)) ∧ ((∀ (e : D), e ∈ [D.int IntKind.u8 (IntKind.u8.wrap ((↑m : Int).fdiv ((2 : Int) ^ min (IntKind.i64.wrap ((8 : Int) * IntKind.i64.wrap (IntKind.i64.wrap ((↑k : Int) - (1 : Int)) - (↑j : Int)))).toNat (64 : Nat))))] → e.cells.length = (1 : Nat)) ∧ ((AV.d (D.int IntKind.i64 (↑m : Int)) = AV.d (D.int IntKind.i64 (↑m : Int))) ∧ ((AV.d (D.int IntKind.i64 (↑k : Int)) = AV.d (D.int IntKind.i64 (↑k : Int))) ∧ ((AV.own (1240 : Nat) (1 : Nat) = AV.own (1240 : Nat) (1 : Nat)) ∧ ((AV.d (D.int IntKind.i64 (↑k : Int)) = AV.d (D.int IntKind.i64 (↑k : Int))) ∧ ((AV.d (D.int IntKind.i64 (IntKind.i64.wrap ((↑j : Int) + (1 : Int)))) = AV.d (D.int IntKind.i64 (↑(j + (1 : Nat)) : Int))) ∧ ((Ob.row (1 : Nat) (List.map byteD (b ++ List.take j (cBE k m)) ++ [D.int IntKind.u8 (IntKind.u8.wrap ((↑m : Int).fdiv ((2 : Int) ^ min (IntKind.i64.wrap ((8 : Int) * IntKind.i64.wrap (IntKind.i64.wrap ((↑k : Int) - (1 : Int)) - (↑j : Int)))).toNat (64 : Nat))))]) = Ob.row (1 : Nat) (List.map byteD (b ++ List.take (j + (1 : Nat)) (cBE k m)))) ∧ (True)))))))))) (False)) (h := {}) (subs := []) (ws := []) (ρ := []) (by kernel_rfl) ?_
  have hv : IntKind.i64.wrap ((j : Int) + 1) = ((j + 1 : Nat) : Int) := by rw [IntKind.wrap_i64]; omega
  have hs := shr_byte (m := m) hk hj
  have hl := cBE_len k m
  rw [hv, hs.2, BE_succ hj]
  repeat' (first | with_reducible exact True.intro | with_reducible refine And.intro ?_ ?_ | with_reducible refine condP_dec (fun _ => ?_) (fun _ => ?_) | with_reducible refine condP_eq (fun _ => ?_) (fun _ => ?_) | with_reducible refine condP_ne (fun _ => ?_) (fun _ => ?_) | with_reducible refine condP_not (condP_dec (fun _ => ?_) (fun _ => ?_)) | with_reducible refine condP_not (condP_eq (fun _ => ?_) (fun _ => ?_)) | with_reducible refine condP_not (condP_intro (fun _ => ?_) (fun _ => ?_)) | with_reducible refine condP_intro (fun _ => ?_) (fun _ => ?_))
  all_goals first | exact hs.1 | rfl | omega | (exfalso; omega) | (simp; omega) | (simp [D.cells]; done) | (simp [byteD]; done)

set_option maxRecDepth 100000 in
set_option maxHeartbeats 1000000 in
theorem q22 (b : List UInt8) (m k : Nat) : Runs Try.prog 0 (loopN Try.prog 24 0) (St.as (I22 b m k k) 33) (.exit 0) (St.as (I22 b m k k) 33) := by
  refine round_wp (p := condP (decide ((↑k : Int) < (↑k : Int))) (((0 : Int) ≤ IntKind.i64.wrap ((8 : Int) * IntKind.i64.wrap (IntKind.i64.wrap ((↑k : Int) - (1 : Int)) - (↑k : Int)))) ∧ ((((List.map byteD (b ++ List.take k (cBE k m))).length + [D.int IntKind.u8 (IntKind.u8.wrap ((↑m : Int).fdiv ((2 : Int) ^ min (IntKind.i64.wrap ((8 : Int) * IntKind.i64.wrap (IntKind.i64.wrap ((↑k : Int) - (1 : Int)) - (↑k : Int)))).toNat (64 : Nat))))].length) * (1 : Nat) ≤ (140737488355328 : Nat)) ∧ ((∀ (e : D), e ∈ [D.int IntKind.u8 (IntKind.u8.wrap ((↑m : Int).fdiv ((2 : Int) ^ min (IntKind.i64.wrap ((8 : Int) * IntKind.i64.wrap (IntKind.i64.wrap ((↑k : Int) - (1 : Int)) - (↑k : Int)))).toNat (64 : Nat))))] → e.cells.length = (1 : Nat)) ∧ (False)))) ((AV.d (D.int IntKind.i64 (↑m : Int)) = AV.d (D.int IntKind.i64 (↑m : Int))) ∧ ((AV.d (D.int IntKind.i64 (↑k : Int)) = AV.d (D.int IntKind.i64 (↑k : Int))) ∧ ((AV.own (1 : Nat) (1 : Nat) = AV.own (1 : Nat) (1 : Nat)) ∧ ((AV.d (D.int IntKind.i64 (↑k : Int)) = AV.d (D.int IntKind.i64 (↑k : Int))) ∧ ((AV.d (D.int IntKind.i64 (↑k : Int)) = AV.d (D.int IntKind.i64 (↑k : Int))) ∧ ((Ob.row (1 : Nat) (List.map byteD (b ++ List.take k (cBE k m))) = Ob.row (1 : Nat) (List.map byteD (b ++ List.take k (cBE k m)))) ∧ (True)))))))) (h := {}) (subs := []) (ws := []) (ρ := []) (by kernel_rfl) ?_
  repeat' (first | with_reducible exact True.intro | with_reducible refine And.intro ?_ ?_ | with_reducible refine condP_dec (fun _ => ?_) (fun _ => ?_) | with_reducible refine condP_eq (fun _ => ?_) (fun _ => ?_) | with_reducible refine condP_ne (fun _ => ?_) (fun _ => ?_) | with_reducible refine condP_not (condP_dec (fun _ => ?_) (fun _ => ?_)) | with_reducible refine condP_not (condP_eq (fun _ => ?_) (fun _ => ?_)) | with_reducible refine condP_not (condP_intro (fun _ => ?_) (fun _ => ?_)) | with_reducible refine condP_intro (fun _ => ?_) (fun _ => ?_))
  all_goals first | rfl | omega

theorem l22 (b : List UInt8) (hb : b.length < 70368744177600) (m k : Nat) (hk : k ≤ 7) : Loops Try.prog 0 (loopN Try.prog 24 0) ((I22 b m k 0).as 33) (.exit 0) ((I22 b m k k).as 33) :=
  loops_n (I := fun j => (I22 b m k j).as 33) (by simp) k 0 (by omega) (fun j _ hj => r22 b hb m k hk j hj) (q22 b m k)
def gFit : List D → Option (AV × List Ob)
  | [.int _ n, .int _ k] => some (.d (.bool (cFits n k)), [])
  | _ => none
set_option maxRecDepth 100000 in
set_option maxHeartbeats 1000000 in
theorem lay22y (b : List UInt8) (hb : b.length < 70368744177600) (m k : Nat) (hk : k ≤ 7) (hf : cFits m k = true) : FnOK Try.prog 24 ([.d (.sl (b.map byteD)), .d (.int .i64 m), .d (.int .i64 k)]) ([]) (.d (.sl ((b ++ cBE k m).map byteD))) ([]) := by
  refine fnOK_wp (p := (FnOK Try.prog (41 : Nat) [AV.d (D.sl (List.map byteD b))] [] (AV.own (0 : Nat) (1 : Nat)) [Ob.row (1 : Nat) (List.map byteD b)]) ∧ ((FnOK Try.prog (42 : Nat) [AV.d (D.int IntKind.i64 (↑m : Int)), AV.d (D.int IntKind.i64 (↑k : Int))] [] (AV.d (D.bool (cFits (↑m : Int) (↑k : Int)))) []) ∧ (condP (!cFits (↑m : Int) (↑k : Int)) ((AV.d (D.sl (List.map byteD b)) = AV.d (D.sl (List.map byteD (b ++ cBE k m)))) ∧ (True)) ((AV.d (D.int IntKind.i64 (↑m : Int)) = AV.d (D.int IntKind.i64 (↑m : Int))) ∧ ((AV.d (D.int IntKind.i64 (↑k : Int)) = AV.d (D.int IntKind.i64 (↑k : Int))) ∧ ((AV.own (1080 : Nat) (1 : Nat) = AV.own (1080 : Nat) (1 : Nat)) ∧ ((AV.d (D.int IntKind.i64 (↑k : Int)) = AV.d (D.int IntKind.i64 (↑k : Int))) ∧ ((AV.d (D.int IntKind.i64 (0 : Int)) = AV.d (D.int IntKind.i64 (0 : Int))) ∧ ((Ob.row (1 : Nat) (List.map byteD b) = Ob.row (1 : Nat) (List.map byteD (b ++ List.take (0 : Nat) (cBE k m)))) ∧ ((LoopsS Try.prog (0 : Nat) (loopN Try.prog (24 : Nat) (0 : Nat)) (I22 b m k (0 : Nat)) (Exit.exit (0 : Nat)) (I22 b m k k) (33 : Nat)) ∧ ((AV.d (D.sl (List.map byteD (b ++ List.take k (cBE k m)))) = AV.d (D.sl (List.map byteD (b ++ cBE k m)))) ∧ (True)))))))))))) (h := {G := [(42, gFit)], H := [(1, [(1, .call [] (.own 0 1) [.row 1 (b.map byteD)])])]}) (subs := [⟨[], [], I22 b m k 0, .exit 0, I22 b m k k⟩]) (ws := []) (ρ := []) (by kernel_rfl) ?_
  rw [hf]
  have hc := clone29 b (by omega)
  have hl := l22 b hb m k hk
  have hF := fits24 m k
  rw [hf] at hF
  have ht : (cBE k m).take k = cBE k m := List.take_of_length_le (by rw [cBE_len]; exact Nat.le_refl _)
  rw [ht]
  simp only [List.take_zero, List.append_nil]
  repeat' (first | with_reducible exact True.intro | with_reducible refine And.intro ?_ ?_ | with_reducible refine condP_dec (fun _ => ?_) (fun _ => ?_) | with_reducible refine condP_eq (fun _ => ?_) (fun _ => ?_) | with_reducible refine condP_ne (fun _ => ?_) (fun _ => ?_) | with_reducible refine condP_not (condP_dec (fun _ => ?_) (fun _ => ?_)) | with_reducible refine condP_not (condP_eq (fun _ => ?_) (fun _ => ?_)) | with_reducible refine condP_not (condP_intro (fun _ => ?_) (fun _ => ?_)) | with_reducible refine condP_intro (fun _ => ?_) (fun _ => ?_))
  all_goals first | exact hc | exact hF | exact hl | rfl | (exfalso; simp_all; done) | (simp; done)

set_option maxRecDepth 100000 in
set_option maxHeartbeats 1000000 in
theorem lay22n (b : List UInt8) (hb : b.length < 70368744177600) (n k : Int) (hf : cFits n k = false) : FnOK Try.prog 24 ([.d (.sl (b.map byteD)), .d (.int .i64 n), .d (.int .i64 k)]) ([]) (.d (.sl (b.map byteD))) ([]) := by
  refine fnOK_wp (p := (FnOK Try.prog (41 : Nat) [AV.d (D.sl (List.map byteD b))] [] (AV.own (0 : Nat) (1 : Nat)) [Ob.row (1 : Nat) (List.map byteD b)]) ∧ ((FnOK Try.prog (42 : Nat) [AV.d (D.int IntKind.i64 n), AV.d (D.int IntKind.i64 k)] [] (AV.d (D.bool (cFits n k))) []) ∧ (condP (!cFits n k) ((AV.d (D.sl (List.map byteD b)) = AV.d (D.sl (List.map byteD b))) ∧ (True)) (False)))) (h := {G := [(42, gFit)], H := [(1, [(1, .call [] (.own 0 1) [.row 1 (b.map byteD)])])]}) (subs := []) (ws := []) (ρ := []) (by kernel_rfl) ?_
  rw [hf]
  have hc := clone29 b (by omega)
  have hF := fits24 n k
  rw [hf] at hF
  refine ⟨hc, hF, ?_⟩
  exact condP_t rfl ⟨rfl, trivial⟩

theorem lay22 (b : List UInt8) (hb : b.length < 70368744177600) (n k : Int) : FnOK Try.prog 24 [.d (.sl (b.map byteD)), .d (.int .i64 n), .d (.int .i64 k)] [] (.d (.sl ((cLay b n k).map byteD))) [] := by
  cases hf : cFits n k
  · unfold cLay; rw [if_neg (by simp [hf])]; exact lay22n b hb n k hf
  · have := fits_yes hf
    obtain ⟨m, rfl⟩ := Int.eq_ofNat_of_zero_le this.1
    obtain ⟨e, rfl⟩ := Int.eq_ofNat_of_zero_le (show 0 ≤ k by omega)
    unfold cLay; rw [if_pos hf]; exact lay22y b hb m e (by omega) hf
def I23 (b : List UInt8) (m k : Nat) (j : Nat) : St := ⟨[(0, .d (.sl (b.map byteD))), (1, .d (.int .i64 ((m / 256 ^ j : Nat) : Int))), (2, .d (.int .i64 k)), (7, .own 1 1), (8, .d (.int .i64 j))], [(1, .row 1 ((cBE j m).map byteD))]⟩
theorem mod_256 {q : Nat} : IntKind.u8.wrap ((q : Int).tmod 256) = ((b8 q).toNat : Int) := by
  rw [Int.tmod_eq_emod_of_nonneg (Int.natCast_nonneg _), b8_nat, IntKind.wrap_u8]; omega
set_option maxRecDepth 100000 in
set_option maxHeartbeats 1000000 in
theorem r23 (b : List UInt8) (m k : Nat) (hm : m < 9223372036854775808) (hk : k ≤ 7) (j : Nat) (hj : j < k) : Runs Try.prog 0 (loopN Try.prog 27 0) (St.as (I23 b m k j) 33) (.normal) (St.as (I23 b m k (j+1)) 33) := by
  refine round_wp (p := condP (decide ((↑j : Int) < (↑k : Int))) (((256 : Int) ≠ (0 : Int)) ∧ ((([D.int IntKind.u8 (IntKind.u8.wrap ((↑(m / (256 : Nat) ^ j) : Int).tmod (256 : Int)))].length + (List.map byteD (cBE j m)).length) * (1 : Nat) ≤ (140737488355328 : Nat)) ∧ ((∀ (e : D), e ∈ List.map byteD (cBE j m) → e.cells.length = (1 : Nat)) ∧ (((256 : Int) ≠ (0 : Int)) ∧ ((AV.d (D.sl (List.map byteD b)) = AV.d (D.sl (List.map byteD b))) ∧ ((AV.d (D.int IntKind.i64 (IntKind.i64.wrap ((↑(m / (256 : Nat) ^ j) : Int).tdiv (256 : Int)))) = AV.d (D.int IntKind.i64 (↑(m / (256 : Nat) ^ (j + (1 : Nat))) : Int))) ∧ ((AV.d (D.int IntKind.i64 (↑k : Int)) = AV.d (D.int IntKind.i64 (↑k : Int))) ∧ ((AV.own (1200 : Nat) (1 : Nat) = AV.own (1200 : Nat) (1 : Nat)) ∧ ((AV.d (D.int IntKind.i64 (IntKind.i64.wrap ((↑j : Int) + (1 : Int)))) = AV.d (D.int IntKind.i64 (↑(j + (1 : Nat)) : Int))) ∧ ((Ob.row (1 : Nat) (D.int IntKind.u8 (IntKind.u8.wrap ((↑(m / (256 : Nat) ^ j) : Int).tmod (256 : Int))) :: List.append._f [] PUnit.unit (List.map byteD (cBE j m))) = Ob.row (1 : Nat) (List.map byteD (cBE (j + (1 : Nat)) m))) ∧ (True))))))))))) (False)) (h := {}) (subs := []) (ws := []) (ρ := []) (by kernel_rfl) ?_
  have hv : IntKind.i64.wrap ((j : Int) + 1) = ((j + 1 : Nat) : Int) := by rw [IntKind.wrap_i64]; omega
  have hd : m / 256 ^ (j + 1) = m / 256 ^ j / 256 := by rw [Nat.pow_succ, Nat.div_div_eq_div_mul]
  have hq := div_256 (Nat.lt_of_le_of_lt (Nat.div_le_self m (256 ^ j)) hm)
  have hl := cBE_len j m
  rw [hv, hq, hd, mod_256, cBE_cons]
  repeat' (first | with_reducible exact True.intro | with_reducible refine And.intro ?_ ?_ | with_reducible refine condP_dec (fun _ => ?_) (fun _ => ?_) | with_reducible refine condP_eq (fun _ => ?_) (fun _ => ?_) | with_reducible refine condP_ne (fun _ => ?_) (fun _ => ?_) | with_reducible refine condP_not (condP_dec (fun _ => ?_) (fun _ => ?_)) | with_reducible refine condP_not (condP_eq (fun _ => ?_) (fun _ => ?_)) | with_reducible refine condP_not (condP_intro (fun _ => ?_) (fun _ => ?_)) | with_reducible refine condP_intro (fun _ => ?_) (fun _ => ?_))
  all_goals first | rfl | decide | omega | (exfalso; omega) | exact sizes1 _ | (simp; omega)

set_option maxRecDepth 100000 in
set_option maxHeartbeats 1000000 in
theorem q23 (b : List UInt8) (m k : Nat) : Runs Try.prog 0 (loopN Try.prog 27 0) (St.as (I23 b m k k) 33) (.exit 0) (St.as (I23 b m k k) 33) := by
  refine round_wp (p := condP (decide ((↑k : Int) < (↑k : Int))) (((256 : Int) ≠ (0 : Int)) ∧ ((([D.int IntKind.u8 (IntKind.u8.wrap ((↑(m / (256 : Nat) ^ k) : Int).tmod (256 : Int)))].length + (List.map byteD (cBE k m)).length) * (1 : Nat) ≤ (140737488355328 : Nat)) ∧ ((∀ (e : D), e ∈ List.map byteD (cBE k m) → e.cells.length = (1 : Nat)) ∧ (((256 : Int) ≠ (0 : Int)) ∧ (False))))) ((AV.d (D.sl (List.map byteD b)) = AV.d (D.sl (List.map byteD b))) ∧ ((AV.d (D.int IntKind.i64 (↑(m / (256 : Nat) ^ k) : Int)) = AV.d (D.int IntKind.i64 (↑(m / (256 : Nat) ^ k) : Int))) ∧ ((AV.d (D.int IntKind.i64 (↑k : Int)) = AV.d (D.int IntKind.i64 (↑k : Int))) ∧ ((AV.own (1 : Nat) (1 : Nat) = AV.own (1 : Nat) (1 : Nat)) ∧ ((AV.d (D.int IntKind.i64 (↑k : Int)) = AV.d (D.int IntKind.i64 (↑k : Int))) ∧ ((Ob.row (1 : Nat) (List.map byteD (cBE k m)) = Ob.row (1 : Nat) (List.map byteD (cBE k m))) ∧ (True)))))))) (h := {}) (subs := []) (ws := []) (ρ := []) (by kernel_rfl) ?_
  repeat' (first | with_reducible exact True.intro | with_reducible refine And.intro ?_ ?_ | with_reducible refine condP_dec (fun _ => ?_) (fun _ => ?_) | with_reducible refine condP_eq (fun _ => ?_) (fun _ => ?_) | with_reducible refine condP_ne (fun _ => ?_) (fun _ => ?_) | with_reducible refine condP_not (condP_dec (fun _ => ?_) (fun _ => ?_)) | with_reducible refine condP_not (condP_eq (fun _ => ?_) (fun _ => ?_)) | with_reducible refine condP_not (condP_intro (fun _ => ?_) (fun _ => ?_)) | with_reducible refine condP_intro (fun _ => ?_) (fun _ => ?_))
  all_goals first | rfl | omega

theorem l23 (b : List UInt8) (m k : Nat) (hm : m < 9223372036854775808) (hk : k ≤ 7) : Loops Try.prog 0 (loopN Try.prog 27 0) ((I23 b m k 0).as 33) (.exit 0) ((I23 b m k k).as 33) :=
  loops_n (I := fun j => (I23 b m k j).as 33) (by simp) k 0 (by omega) (fun j _ hj => r23 b m k hm hk j hj) (q23 b m k)
set_option maxRecDepth 100000 in
set_option maxHeartbeats 1000000 in
theorem lay23y (b : List UInt8) (hb : b.length < 70368744177600) (m k : Nat) (hm : m < 9223372036854775808) (hk : k ≤ 7) (hf : cFits m k = true) : FnOK Try.prog 27 ([.d (.sl (b.map byteD)), .d (.int .i64 m), .d (.int .i64 k)]) ([]) (.d (.sl ((b ++ cBE k m).map byteD))) ([]) := by
  refine fnOK_wp (p := (FnOK Try.prog (44 : Nat) [AV.d (D.int IntKind.i64 (↑m : Int)), AV.d (D.int IntKind.i64 (↑k : Int))] [] (AV.d (D.bool (cFits (↑m : Int) (↑k : Int)))) []) ∧ (condP (!cFits (↑m : Int) (↑k : Int)) ((AV.d (D.sl (List.map byteD b)) = AV.d (D.sl (List.map byteD (b ++ cBE k m)))) ∧ (True)) ((AV.d (D.sl (List.map byteD b)) = AV.d (D.sl (List.map byteD b))) ∧ ((AV.d (D.int IntKind.i64 (↑m : Int)) = AV.d (D.int IntKind.i64 (↑(m / (1 : Nat)) : Int))) ∧ ((AV.d (D.int IntKind.i64 (↑k : Int)) = AV.d (D.int IntKind.i64 (↑k : Int))) ∧ ((AV.own (901 : Nat) (1 : Nat) = AV.own (901 : Nat) (1 : Nat)) ∧ ((AV.d (D.int IntKind.i64 (0 : Int)) = AV.d (D.int IntKind.i64 (0 : Int))) ∧ ((Ob.row (1 : Nat) [] = Ob.row (1 : Nat) []) ∧ ((LoopsS Try.prog (0 : Nat) (loopN Try.prog (27 : Nat) (0 : Nat)) (I23 b m k (0 : Nat)) (Exit.exit (0 : Nat)) (I23 b m k k) (33 : Nat)) ∧ ((((0 : Nat) + (List.map byteD b).length) * (1 : Nat) ≤ (140737488355328 : Nat)) ∧ ((∀ (e : D), e ∈ List.map byteD b → e.cells.length = (1 : Nat)) ∧ (((([] ++ List.map byteD b).length + (List.map byteD (cBE k m)).length) * (1 : Nat) ≤ (140737488355328 : Nat)) ∧ ((∀ (e : D), e ∈ List.map byteD (cBE k m) → e.cells.length = (1 : Nat)) ∧ ((AV.d (D.sl ([] ++ List.map byteD b ++ List.map byteD (cBE k m))) = AV.d (D.sl (List.map byteD (b ++ cBE k m)))) ∧ (True))))))))))))))) (h := {G := [(44, gFit)]}) (subs := [⟨[], [], I23 b m k 0, .exit 0, I23 b m k k⟩]) (ws := []) (ρ := []) (by kernel_rfl) ?_
  rw [hf]
  have hl := l23 b m k hm hk
  have hF := fits25 m k (by omega)
  have hb2 := cBE_len k m
  rw [hf] at hF
  repeat' (first | with_reducible exact True.intro | with_reducible refine And.intro ?_ ?_ | with_reducible refine condP_dec (fun _ => ?_) (fun _ => ?_) | with_reducible refine condP_eq (fun _ => ?_) (fun _ => ?_) | with_reducible refine condP_ne (fun _ => ?_) (fun _ => ?_) | with_reducible refine condP_not (condP_dec (fun _ => ?_) (fun _ => ?_)) | with_reducible refine condP_not (condP_eq (fun _ => ?_) (fun _ => ?_)) | with_reducible refine condP_not (condP_intro (fun _ => ?_) (fun _ => ?_)) | with_reducible refine condP_intro (fun _ => ?_) (fun _ => ?_))
  all_goals first | exact hF | exact hl | rfl | exact sizes1 _ | (simp; omega) | (exfalso; simp_all; done) | (simp; done)

set_option maxRecDepth 100000 in
set_option maxHeartbeats 1000000 in
theorem lay23n (b : List UInt8) (n k : Int) (hn : n < 9223372036854775808) (hf : cFits n k = false) : FnOK Try.prog 27 ([.d (.sl (b.map byteD)), .d (.int .i64 n), .d (.int .i64 k)]) ([]) (.d (.sl (b.map byteD))) ([]) := by
  refine fnOK_wp (p := (FnOK Try.prog (44 : Nat) [AV.d (D.int IntKind.i64 n), AV.d (D.int IntKind.i64 k)] [] (AV.d (D.bool (cFits n k))) []) ∧ (condP (!cFits n k) ((AV.d (D.sl (List.map byteD b)) = AV.d (D.sl (List.map byteD b))) ∧ (True)) (False))) (h := {G := [(44, gFit)]}) (subs := []) (ws := []) (ρ := []) (by kernel_rfl) ?_
  rw [hf]
  have hF := fits25 n k hn
  rw [hf] at hF
  exact ⟨hF, condP_t rfl ⟨rfl, trivial⟩⟩

theorem lay23 (b : List UInt8) (hb : b.length < 70368744177600) (n k : Int) (hn : n < 9223372036854775808) : FnOK Try.prog 27 [.d (.sl (b.map byteD)), .d (.int .i64 n), .d (.int .i64 k)] [] (.d (.sl ((cLay b n k).map byteD))) [] := by
  cases hf : cFits n k
  · unfold cLay; rw [if_neg (by simp [hf])]; exact lay23n b n k hn hf
  · have := fits_yes hf
    obtain ⟨m, rfl⟩ := Int.eq_ofNat_of_zero_le this.1
    obtain ⟨e, rfl⟩ := Int.eq_ofNat_of_zero_le (show 0 ≤ k by omega)
    unfold cLay; rw [if_pos hf]; exact lay23y b hb m e (by omega) (by omega) hf
end Go.Proofs.Ytekhpiiediooiaa.C01
