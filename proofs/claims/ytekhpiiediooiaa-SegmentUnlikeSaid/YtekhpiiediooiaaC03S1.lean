/-
laws 03: sums, seals: contracts of the program's functions and of the document's. Texts of less than 2^46 bytes.
-/
import Derived.Test.YtekhpiiediooiaaC03S0
import Derived.Test.YtekhpiiediooiaaProg
import Derived.KernelRfl
set_option linter.unusedSimpArgs false
set_option linter.unusedVariables false
namespace Go.Proofs.Ytekhpiiediooiaa.C03
open Sx Go.RowKit

theorem ones_xor (r : B32) : bitsI .xor .u32 4294967295 (iv r) = iv (~~~ r) := not_iv r
theorem iv_inj {a b : B32} (h : iv a = iv b) : a = b := by rw [← bv_iv a, ← bv_iv b, h]
theorem and1 (x : B32) : bitsI .and .u32 (iv x) 1 = iv (x &&& 1#32) := and_iv x 1#32
theorem one_iff (x : B32) : iv x = 1 ↔ x = 1#32 := ⟨fun h => iv_inj (h.trans rfl), fun h => by rw [h]; rfl⟩
theorem xorp (x : B32) : bitsI .xor .u32 (iv x) 3988292384 = iv (x ^^^ 3988292384#32) := xor_iv x 3988292384#32
theorem cBit_1 {x : B32} (h : x &&& 1#32 = 1#32) : cBit x = (x >>> 1) ^^^ 3988292384#32 := if_pos h
theorem cBit_0 {x : B32} (h : ¬ x &&& 1#32 = 1#32) : cBit x = x >>> 1 := if_neg h
theorem cN_succ (j : Nat) (r : B32) : cN (j + 1) r = cBit (cN j r) := rfl
theorem half_iv (x : B32) : IntKind.u32.wrap ((iv x).tdiv 2) = iv (x >>> 1) := by
  have := iv_bd x
  rw [Int.tdiv_eq_ediv_of_nonneg this.1, ← shr_iv, Int.fdiv_eq_ediv_of_nonneg _ (by omega), IntKind.wrap_u32]
  omega
theorem mod_iv (x : B32) : (iv x).tmod 2 = iv x % 2 := Int.tmod_eq_emod_of_nonneg (iv_bd x).1

def G1 : List (Nat × (List D → Option (AV × List Ob))) := [
  (56, fun | [.int _ n] => some (.d (.int .u32 (iv (cStep (bv n)))), []) | _ => none),
  (58, fun | [.int _ n] => some (.d (.int .u32 (iv (cStep (bv n)))), []) | _ => none),
  (57, fun | [.int _ n] => some (.d (.int .u32 (iv (~~~ bv n))), []) | _ => none)]

def Ip (r : B32) (j : Nat) : St := ⟨[(0, .d (.int .u32 (iv (cN j r)))), (3, .d (.int .i64 j))], []⟩
def Op (r : B32) : St := ⟨[(2, .d (.int .u32 (iv (cN 8 r))))], []⟩
theorem bit1 {x : B32} (h : bitsI .and .u32 (iv x) 1 = 1) : cBit x = (x >>> 1) ^^^ 3988292384#32 := by rw [and1, one_iff] at h; exact cBit_1 h
theorem bit0 {x : B32} (h : bitsI .and .u32 (iv x) 1 ≠ 1) : cBit x = x >>> 1 := by rw [and1, Ne, one_iff] at h; exact cBit_0 h
theorem rem1 {x : B32} (h : (iv x).tmod 2 = 1) : cBit x = (x >>> 1) ^^^ 3988292384#32 := by rw [mod_iv, ← low_iv] at h; exact cBit_1 h
theorem rem0 {x : B32} (h : (iv x).tmod 2 ≠ 1) : cBit x = x >>> 1 := by rw [mod_iv, Ne, ← low_iv] at h; exact cBit_0 h
set_option maxRecDepth 100000 in
set_option maxHeartbeats 1000000 in
theorem rp (r : B32) (j : Nat) (hj : j < 7) : Runs Try.prog 0 (restOf Try.prog 56 0) (St.as (Ip r j) 18) (.goto 0) (St.as (Ip r (j+1)) 18) := by
  refine round_wp (p := ((0 : Int) ≤ (1 : Int)) ∧ (condP (bitsI BinOp.and IntKind.u32 (iv (cN j r)) (1 : Int) == (1 : Int)) (condP (decide (IntKind.i64.wrap ((↑j : Int) + (1 : Int)) < (8 : Int))) ((AV.d (D.int IntKind.u32 (bitsI BinOp.xor IntKind.u32 ((iv (cN j r)).fdiv (2 : Int)) (3988292384 : Int))) = AV.d (D.int IntKind.u32 (iv (cN (j + (1 : Nat)) r)))) ∧ ((AV.d (D.int IntKind.i64 (IntKind.i64.wrap ((↑j : Int) + (1 : Int)))) = AV.d (D.int IntKind.i64 (↑(j + (1 : Nat)) : Int))) ∧ (True))) (False)) (condP (decide (IntKind.i64.wrap ((↑j : Int) + (1 : Int)) < (8 : Int))) ((AV.d (D.int IntKind.u32 ((iv (cN j r)).fdiv (2 : Int))) = AV.d (D.int IntKind.u32 (iv (cN (j + (1 : Nat)) r)))) ∧ ((AV.d (D.int IntKind.i64 (IntKind.i64.wrap ((↑j : Int) + (1 : Int)))) = AV.d (D.int IntKind.i64 (↑(j + (1 : Nat)) : Int))) ∧ (True))) (False)))) (h := {}) (subs := []) (ws := []) (ρ := []) (by kernel_rfl) ?_
  repeat' (first | with_reducible exact True.intro | with_reducible refine And.intro ?_ ?_ | with_reducible refine condP_dec (fun _ => ?_) (fun _ => ?_) | with_reducible refine condP_eq (fun _ => ?_) (fun _ => ?_) | with_reducible refine condP_ne (fun _ => ?_) (fun _ => ?_) | with_reducible refine condP_not (condP_dec (fun _ => ?_) (fun _ => ?_)) | with_reducible refine condP_not (condP_eq (fun _ => ?_) (fun _ => ?_)) | with_reducible refine condP_not (condP_intro (fun _ => ?_) (fun _ => ?_)) | with_reducible refine condP_intro (fun _ => ?_) (fun _ => ?_))
  all_goals (try simp only [List.length_map, AV.d.injEq, D.int.injEq, D.bool.injEq, D.str.injEq, D.sl.injEq, true_and, and_true, decide_eq_true_eq, decide_eq_false_iff_not, decide_eq_decide])
  all_goals (try simp only [List.length_map] at *)
  all_goals first | decide | (rw [shr_iv, xorp]; exact congrArg iv (bit1 (by assumption)).symm) | (rw [shr_iv]; exact congrArg iv (bit0 (by assumption)).symm) | (rw [half_iv, xorp]; exact congrArg iv (rem1 (by assumption)).symm) | (rw [half_iv]; exact congrArg iv (rem0 (by assumption)).symm) | rfl | omega | (simp only [IntKind.wrap_i64] at *; omega) | skip

set_option maxRecDepth 100000 in
set_option maxHeartbeats 1000000 in
theorem qp (r : B32) : Runs Try.prog 0 (restOf Try.prog 56 0) (St.as (Ip r 7) 18) (.ret) (St.as (Op r) 18) := by
  refine round_wp (p := ((0 : Int) ≤ (1 : Int)) ∧ (condP (bitsI BinOp.and IntKind.u32 (iv (cN (7 : Nat) r)) (1 : Int) == (1 : Int)) ((AV.d (D.int IntKind.u32 (bitsI BinOp.xor IntKind.u32 ((iv (cN (7 : Nat) r)).fdiv (2 : Int)) (3988292384 : Int))) = AV.d (D.int IntKind.u32 (iv (cN (8 : Nat) r)))) ∧ (True)) ((AV.d (D.int IntKind.u32 ((iv (cN (7 : Nat) r)).fdiv (2 : Int))) = AV.d (D.int IntKind.u32 (iv (cN (8 : Nat) r)))) ∧ (True)))) (h := {}) (subs := []) (ws := []) (ρ := []) (by kernel_rfl) ?_
  repeat' (first | with_reducible exact True.intro | with_reducible refine And.intro ?_ ?_ | with_reducible refine condP_dec (fun _ => ?_) (fun _ => ?_) | with_reducible refine condP_eq (fun _ => ?_) (fun _ => ?_) | with_reducible refine condP_ne (fun _ => ?_) (fun _ => ?_) | with_reducible refine condP_not (condP_dec (fun _ => ?_) (fun _ => ?_)) | with_reducible refine condP_not (condP_eq (fun _ => ?_) (fun _ => ?_)) | with_reducible refine condP_not (condP_intro (fun _ => ?_) (fun _ => ?_)) | with_reducible refine condP_intro (fun _ => ?_) (fun _ => ?_))
  all_goals (try simp only [List.length_map, AV.d.injEq, D.int.injEq, D.bool.injEq, D.str.injEq, D.sl.injEq, true_and, and_true, decide_eq_true_eq, decide_eq_false_iff_not, decide_eq_decide])
  all_goals (try simp only [List.length_map] at *)
  all_goals first | decide | (rw [shr_iv, xorp]; exact congrArg iv (bit1 (by assumption)).symm) | (rw [shr_iv]; exact congrArg iv (bit0 (by assumption)).symm) | (rw [half_iv, xorp]; exact congrArg iv (rem1 (by assumption)).symm) | (rw [half_iv]; exact congrArg iv (rem0 (by assumption)).symm) | rfl | omega | (simp only [IntKind.wrap_i64] at *; omega) | skip

theorem lp (r : B32) : Passes Try.prog 0 0 (restOf Try.prog 56 0) ((Ip r 1).as 18) .ret ((Op r).as 18) :=
  passes_n (I := fun j => (Ip r j).as 18) (by simp) 7 1 (by omega) (fun j _ hj => rp r j hj) (qp r)
set_option maxRecDepth 100000 in
set_option maxHeartbeats 1000000 in
theorem shift' (r : B32) : FnOK Try.prog 56 ([.d (.int .u32 (iv r))]) ([]) (.d (.int .u32 (iv (cStep r)))) ([]) := by
  refine fnOK_wp (p := ((0 : Int) ≤ (1 : Int)) ∧ (condP (bitsI BinOp.and IntKind.u32 (iv r) (1 : Int) == (1 : Int)) ((AV.d (D.int IntKind.u32 (bitsI BinOp.xor IntKind.u32 ((iv r).fdiv (2 : Int)) (3988292384 : Int))) = AV.d (D.int IntKind.u32 (iv (cN (1 : Nat) r)))) ∧ ((AV.d (D.int IntKind.i64 (1 : Int)) = AV.d (D.int IntKind.i64 (1 : Int))) ∧ ((PassesS Try.prog (0 : Nat) (0 : Nat) (restOf Try.prog (56 : Nat) (0 : Nat)) (Ip r (1 : Nat)) Exit.ret (Op r) (18 : Nat)) ∧ ((AV.d (D.int IntKind.u32 (iv (cN (8 : Nat) r))) = AV.d (D.int IntKind.u32 (iv (cStep r)))) ∧ (True))))) ((AV.d (D.int IntKind.u32 ((iv r).fdiv (2 : Int))) = AV.d (D.int IntKind.u32 (iv (cN (1 : Nat) r)))) ∧ ((AV.d (D.int IntKind.i64 (1 : Int)) = AV.d (D.int IntKind.i64 (1 : Int))) ∧ ((PassesS Try.prog (0 : Nat) (0 : Nat) (restOf Try.prog (56 : Nat) (0 : Nat)) (Ip r (1 : Nat)) Exit.ret (Op r) (18 : Nat)) ∧ ((AV.d (D.int IntKind.u32 (iv (cN (8 : Nat) r))) = AV.d (D.int IntKind.u32 (iv (cStep r)))) ∧ (True))))))) (h := {}) (subs := [⟨[], [], Ip r 1, .ret, Op r⟩, ⟨[], [], Ip r 1, .ret, Op r⟩]) (ws := []) (ρ := []) (by kernel_rfl) ?_
  repeat' (first | with_reducible exact True.intro | with_reducible refine And.intro ?_ ?_ | with_reducible refine condP_dec (fun _ => ?_) (fun _ => ?_) | with_reducible refine condP_eq (fun _ => ?_) (fun _ => ?_) | with_reducible refine condP_ne (fun _ => ?_) (fun _ => ?_) | with_reducible refine condP_not (condP_dec (fun _ => ?_) (fun _ => ?_)) | with_reducible refine condP_not (condP_eq (fun _ => ?_) (fun _ => ?_)) | with_reducible refine condP_not (condP_intro (fun _ => ?_) (fun _ => ?_)) | with_reducible refine condP_intro (fun _ => ?_) (fun _ => ?_))
  all_goals (try simp only [List.length_map, AV.d.injEq, D.int.injEq, D.bool.injEq, D.str.injEq, D.sl.injEq, true_and, and_true, decide_eq_true_eq, decide_eq_false_iff_not, decide_eq_decide])
  all_goals (try simp only [List.length_map] at *)
  all_goals first | decide | (rw [shr_iv, xorp]; exact congrArg iv (bit1 (by assumption)).symm) | (rw [shr_iv]; exact congrArg iv (bit0 (by assumption)).symm) | (rw [half_iv, xorp]; exact congrArg iv (rem1 (by assumption)).symm) | (rw [half_iv]; exact congrArg iv (rem0 (by assumption)).symm) | rfl | omega | (simp only [IntKind.wrap_i64] at *; omega) | skip
  all_goals exact lp r

theorem shift (n : Int) (h0 : 0 ≤ n) (h1 : n < 4294967296) : FnOK Try.prog 56 [.d (.int .u32 n)] [] (.d (.int .u32 (iv (cStep (bv n))))) [] := by
  have := shift' (bv n); rwa [iv_bv h0 h1] at this
set_option maxRecDepth 100000 in
set_option maxHeartbeats 1000000 in
theorem rs (r : B32) (j : Nat) (hj : j < 8) : Runs Try.prog 0 (loopN Try.prog 58 0) (St.as (Ip r j) 17) (.normal) (St.as (Ip r (j+1)) 17) := by
  refine round_wp (p := condP (decide ((↑j : Int) < (8 : Int))) (((2 : Int) ≠ (0 : Int)) ∧ (condP ((iv (cN j r)).tmod (2 : Int) == (1 : Int)) (((2 : Int) ≠ (0 : Int)) ∧ ((AV.d (D.int IntKind.u32 (bitsI BinOp.xor IntKind.u32 (IntKind.u32.wrap ((iv (cN j r)).tdiv (2 : Int))) (3988292384 : Int))) = AV.d (D.int IntKind.u32 (iv (cN (j + (1 : Nat)) r)))) ∧ ((AV.d (D.int IntKind.i64 (IntKind.i64.wrap ((↑j : Int) + (1 : Int)))) = AV.d (D.int IntKind.i64 (↑(j + (1 : Nat)) : Int))) ∧ (True)))) (((2 : Int) ≠ (0 : Int)) ∧ ((AV.d (D.int IntKind.u32 (IntKind.u32.wrap ((iv (cN j r)).tdiv (2 : Int)))) = AV.d (D.int IntKind.u32 (iv (cN (j + (1 : Nat)) r)))) ∧ ((AV.d (D.int IntKind.i64 (IntKind.i64.wrap ((↑j : Int) + (1 : Int)))) = AV.d (D.int IntKind.i64 (↑(j + (1 : Nat)) : Int))) ∧ (True)))))) (False)) (h := {}) (subs := []) (ws := []) (ρ := []) (by kernel_rfl) ?_
  repeat' (first | with_reducible exact True.intro | with_reducible refine And.intro ?_ ?_ | with_reducible refine condP_dec (fun _ => ?_) (fun _ => ?_) | with_reducible refine condP_eq (fun _ => ?_) (fun _ => ?_) | with_reducible refine condP_ne (fun _ => ?_) (fun _ => ?_) | with_reducible refine condP_not (condP_dec (fun _ => ?_) (fun _ => ?_)) | with_reducible refine condP_not (condP_eq (fun _ => ?_) (fun _ => ?_)) | with_reducible refine condP_not (condP_intro (fun _ => ?_) (fun _ => ?_)) | with_reducible refine condP_intro (fun _ => ?_) (fun _ => ?_))
  all_goals (try simp only [List.length_map, AV.d.injEq, D.int.injEq, D.bool.injEq, D.str.injEq, D.sl.injEq, true_and, and_true, decide_eq_true_eq, decide_eq_false_iff_not, decide_eq_decide])
  all_goals (try simp only [List.length_map] at *)
  all_goals first | decide | (rw [shr_iv, xorp]; exact congrArg iv (bit1 (by assumption)).symm) | (rw [shr_iv]; exact congrArg iv (bit0 (by assumption)).symm) | (rw [half_iv, xorp]; exact congrArg iv (rem1 (by assumption)).symm) | (rw [half_iv]; exact congrArg iv (rem0 (by assumption)).symm) | rfl | omega | (simp only [IntKind.wrap_i64] at *; omega) | skip

set_option maxRecDepth 100000 in
set_option maxHeartbeats 1000000 in
theorem qs (r : B32) : Runs Try.prog 0 (loopN Try.prog 58 0) (St.as (Ip r 8) 17) (.exit 0) (St.as (Ip r 8) 17) := by
  refine round_wp (p := (AV.d (D.int IntKind.u32 (iv (cN (8 : Nat) r))) = AV.d (D.int IntKind.u32 (iv (cN (8 : Nat) r)))) ∧ ((AV.d (D.int IntKind.i64 (8 : Int)) = AV.d (D.int IntKind.i64 (8 : Int))) ∧ (True))) (h := {}) (subs := []) (ws := []) (ρ := []) (by kernel_rfl) ?_
  repeat' (first | with_reducible exact True.intro | with_reducible refine And.intro ?_ ?_ | with_reducible refine condP_dec (fun _ => ?_) (fun _ => ?_) | with_reducible refine condP_eq (fun _ => ?_) (fun _ => ?_) | with_reducible refine condP_ne (fun _ => ?_) (fun _ => ?_) | with_reducible refine condP_not (condP_dec (fun _ => ?_) (fun _ => ?_)) | with_reducible refine condP_not (condP_eq (fun _ => ?_) (fun _ => ?_)) | with_reducible refine condP_not (condP_intro (fun _ => ?_) (fun _ => ?_)) | with_reducible refine condP_intro (fun _ => ?_) (fun _ => ?_))
  all_goals (try simp only [List.length_map, AV.d.injEq, D.int.injEq, D.bool.injEq, D.str.injEq, D.sl.injEq, true_and, and_true, decide_eq_true_eq, decide_eq_false_iff_not, decide_eq_decide])
  all_goals (try simp only [List.length_map] at *)
  all_goals first | decide | (rw [shr_iv, xorp]; exact congrArg iv (bit1 (by assumption)).symm) | (rw [shr_iv]; exact congrArg iv (bit0 (by assumption)).symm) | (rw [half_iv, xorp]; exact congrArg iv (rem1 (by assumption)).symm) | (rw [half_iv]; exact congrArg iv (rem0 (by assumption)).symm) | rfl | omega | (simp only [IntKind.wrap_i64] at *; omega) | skip

theorem ls (r : B32) : Loops Try.prog 0 (loopN Try.prog 58 0) ((Ip r 0).as 17) (.exit 0) ((Ip r 8).as 17) :=
  loops_n (I := fun j => (Ip r j).as 17) (by simp) 8 0 (by omega) (fun j _ hj => rs r j hj) (qs r)
set_option maxRecDepth 100000 in
set_option maxHeartbeats 1000000 in
theorem step' (r : B32) : FnOK Try.prog 58 ([.d (.int .u32 (iv r))]) ([]) (.d (.int .u32 (iv (cStep r)))) ([]) := by
  refine fnOK_wp (p := (AV.d (D.int IntKind.u32 (iv r)) = AV.d (D.int IntKind.u32 (iv (cN (0 : Nat) r)))) ∧ ((AV.d (D.int IntKind.i64 (0 : Int)) = AV.d (D.int IntKind.i64 (0 : Int))) ∧ ((LoopsS Try.prog (0 : Nat) (loopN Try.prog (58 : Nat) (0 : Nat)) (Ip r (0 : Nat)) (Exit.exit (0 : Nat)) (Ip r (8 : Nat)) (17 : Nat)) ∧ ((AV.d (D.int IntKind.u32 (iv (cN (8 : Nat) r))) = AV.d (D.int IntKind.u32 (iv (cStep r)))) ∧ (True))))) (h := {}) (subs := [⟨[], [], Ip r 0, .exit 0, Ip r 8⟩]) (ws := []) (ρ := []) (by kernel_rfl) ?_
  repeat' (first | with_reducible exact True.intro | with_reducible refine And.intro ?_ ?_ | with_reducible refine condP_dec (fun _ => ?_) (fun _ => ?_) | with_reducible refine condP_eq (fun _ => ?_) (fun _ => ?_) | with_reducible refine condP_ne (fun _ => ?_) (fun _ => ?_) | with_reducible refine condP_not (condP_dec (fun _ => ?_) (fun _ => ?_)) | with_reducible refine condP_not (condP_eq (fun _ => ?_) (fun _ => ?_)) | with_reducible refine condP_not (condP_intro (fun _ => ?_) (fun _ => ?_)) | with_reducible refine condP_intro (fun _ => ?_) (fun _ => ?_))
  all_goals (try simp only [List.length_map, AV.d.injEq, D.int.injEq, D.bool.injEq, D.str.injEq, D.sl.injEq, true_and, and_true, decide_eq_true_eq, decide_eq_false_iff_not, decide_eq_decide])
  all_goals (try simp only [List.length_map] at *)
  all_goals first | decide | (rw [shr_iv, xorp]; exact congrArg iv (bit1 (by assumption)).symm) | (rw [shr_iv]; exact congrArg iv (bit0 (by assumption)).symm) | (rw [half_iv, xorp]; exact congrArg iv (rem1 (by assumption)).symm) | (rw [half_iv]; exact congrArg iv (rem0 (by assumption)).symm) | rfl | omega | (simp only [IntKind.wrap_i64] at *; omega) | skip
  all_goals exact ls r

theorem step (n : Int) (h0 : 0 ≤ n) (h1 : n < 4294967296) : FnOK Try.prog 58 [.d (.int .u32 n)] [] (.d (.int .u32 (iv (cStep (bv n))))) [] := by
  have := step' (bv n); rwa [iv_bv h0 h1] at this
set_option maxRecDepth 100000 in
set_option maxHeartbeats 1000000 in
theorem turned' (r : B32) : FnOK Try.prog 57 ([.d (.int .u32 (iv r))]) ([]) (.d (.int .u32 (iv (~~~ r)))) ([]) := by
  refine fnOK_wp (p := (AV.d (D.int IntKind.u32 (bitsI BinOp.xor IntKind.u32 (iv r) (4294967295 : Int))) = AV.d (D.int IntKind.u32 (iv (~~~r)))) ∧ (True)) (h := {}) (subs := []) (ws := []) (ρ := []) (by kernel_rfl) ?_
  repeat' (first | with_reducible exact True.intro | with_reducible refine And.intro ?_ ?_ | with_reducible refine condP_dec (fun _ => ?_) (fun _ => ?_) | with_reducible refine condP_eq (fun _ => ?_) (fun _ => ?_) | with_reducible refine condP_ne (fun _ => ?_) (fun _ => ?_) | with_reducible refine condP_not (condP_dec (fun _ => ?_) (fun _ => ?_)) | with_reducible refine condP_not (condP_eq (fun _ => ?_) (fun _ => ?_)) | with_reducible refine condP_not (condP_intro (fun _ => ?_) (fun _ => ?_)) | with_reducible refine condP_intro (fun _ => ?_) (fun _ => ?_))
  rw [xor_ones]

theorem turned (n : Int) (h0 : 0 ≤ n) (h1 : n < 4294967296) : FnOK Try.prog 57 [.d (.int .u32 n)] [] (.d (.int .u32 (iv (~~~ bv n)))) [] := by
  have := turned' (bv n); rwa [iv_bv h0 h1] at this

/-! ### A text behind a sum -/
def J11 (r : B32) (s : List UInt8) (j : Nat) : St := ⟨[(5, .d (.int .u32 (iv (cReg r (s.take j))))), (11, .d (.sl (s.map byteD))), (12, .d (.int .i64 s.length)), (13, .d (.int .i64 j))], []⟩
def J12 (r : B32) (s : List UInt8) (j : Nat) : St := ⟨[(1, .d (.str s)), (5, .d (.int .u32 (iv (cReg r (s.take j))))), (6, .d (.int .i64 j))], []⟩
theorem reg_succ {r : B32} {s : List UInt8} {j : Nat} {c : UInt8} (hc : s[j]? = some c) : cReg r (s.take (j + 1)) = cTake (cReg r (s.take j)) c := by
  unfold cReg; rw [List.take_add_one, hc, List.foldl_append]; rfl
theorem take_iv (r : B32) (c : UInt8) : bitsI .xor .u32 (iv r) (IntKind.u32.wrap (c.toNat : Int)) = iv (r ^^^ BitVec.ofNat 32 c.toNat) := by
  rw [byte_iv, wrap_iv, xor_iv]
set_option maxRecDepth 100000 in
set_option maxHeartbeats 1000000 in
theorem r11 (r : B32) (s : List UInt8) (hn : s.length < 70368744177664) (j : Nat) (c : UInt8) (hc : s[j]? = some c) : Runs Try.prog 0 (loopN Try.prog 52 0) (St.as (J11 r s j) 25) (.normal) (St.as (J11 r s (j+1)) 25) := by
  refine round_wp (p := condP (decide ((↑j : Int) < (↑s.length : Int))) (((0 : Int) ≤ (↑j : Int)) ∧ (((List.map byteD s)[(↑j : Int).toNat]? = some (D.int IntKind.u8 (↑c.toNat : Int))) ∧ ((FnOK Try.prog (56 : Nat) [AV.d (D.int IntKind.u32 (bitsI BinOp.xor IntKind.u32 (iv (cReg r (List.take j s))) (IntKind.u32.wrap (↑c.toNat : Int))))] [] (AV.d (D.int IntKind.u32 (iv (cStep (bv (bitsI BinOp.xor IntKind.u32 (iv (cReg r (List.take j s))) (IntKind.u32.wrap (↑c.toNat : Int)))))))) []) ∧ ((AV.d (D.int IntKind.u32 (iv (cStep (bv (bitsI BinOp.xor IntKind.u32 (iv (cReg r (List.take j s))) (IntKind.u32.wrap (↑c.toNat : Int))))))) = AV.d (D.int IntKind.u32 (iv (cReg r (List.take (j + (1 : Nat)) s))))) ∧ ((AV.d (D.sl (List.map byteD s)) = AV.d (D.sl (List.map byteD s))) ∧ ((AV.d (D.int IntKind.i64 (↑s.length : Int)) = AV.d (D.int IntKind.i64 (↑s.length : Int))) ∧ ((AV.d (D.int IntKind.i64 (IntKind.i64.wrap ((↑j : Int) + (1 : Int)))) = AV.d (D.int IntKind.i64 (↑(j + (1 : Nat)) : Int))) ∧ (True)))))))) (False)) (h := {G := G1, els := [(11, .el (.int .u8 c.toNat))]}) (subs := []) (ws := []) (ρ := []) (by kernel_rfl) ?_
  have hj : j < s.length := (List.getElem?_eq_some_iff.1 hc).1
  have hs := reg_succ (r := r) hc
  have hb := iv_bd (cReg r (s.take j) ^^^ BitVec.ofNat 32 c.toNat)
  have he : (s.map byteD)[j]? = some (D.int .u8 c.toNat) := by rw [List.getElem?_map, hc]; rfl
  simp only [take_iv]
  repeat' (first | with_reducible exact True.intro | with_reducible refine And.intro ?_ ?_ | with_reducible refine condP_dec (fun _ => ?_) (fun _ => ?_) | with_reducible refine condP_eq (fun _ => ?_) (fun _ => ?_) | with_reducible refine condP_ne (fun _ => ?_) (fun _ => ?_) | with_reducible refine condP_not (condP_dec (fun _ => ?_) (fun _ => ?_)) | with_reducible refine condP_not (condP_eq (fun _ => ?_) (fun _ => ?_)) | with_reducible refine condP_not (condP_intro (fun _ => ?_) (fun _ => ?_)) | with_reducible refine condP_intro (fun _ => ?_) (fun _ => ?_))
  all_goals (try simp only [List.length_map, AV.d.injEq, D.int.injEq, D.bool.injEq, D.str.injEq, D.sl.injEq, true_and, and_true, decide_eq_true_eq, decide_eq_false_iff_not, decide_eq_decide])
  all_goals (try simp only [List.length_map] at *)
  all_goals first | exact shift _ hb.1 hb.2 | exact he | rfl | (rw [hs, bv_iv]; rfl) | omega | (simp only [IntKind.wrap_i64] at *; omega) | skip

set_option maxRecDepth 100000 in
set_option maxHeartbeats 1000000 in
theorem q11 (r : B32) (s : List UInt8) : Runs Try.prog 0 (loopN Try.prog 52 0) (St.as (J11 r s s.length) 25) (.exit 0) (St.as (J11 r s s.length) 25) := by
  refine round_wp (p := condP (decide ((↑s.length : Int) < (↑s.length : Int))) (False) ((AV.d (D.int IntKind.u32 (iv (cReg r (List.take s.length s)))) = AV.d (D.int IntKind.u32 (iv (cReg r (List.take s.length s))))) ∧ ((AV.d (D.sl (List.map byteD s)) = AV.d (D.sl (List.map byteD s))) ∧ ((AV.d (D.int IntKind.i64 (↑s.length : Int)) = AV.d (D.int IntKind.i64 (↑s.length : Int))) ∧ ((AV.d (D.int IntKind.i64 (↑s.length : Int)) = AV.d (D.int IntKind.i64 (↑s.length : Int))) ∧ (True)))))) (h := {}) (subs := []) (ws := []) (ρ := []) (by kernel_rfl) ?_
  repeat' (first | with_reducible exact True.intro | with_reducible refine And.intro ?_ ?_ | with_reducible refine condP_dec (fun _ => ?_) (fun _ => ?_) | with_reducible refine condP_eq (fun _ => ?_) (fun _ => ?_) | with_reducible refine condP_ne (fun _ => ?_) (fun _ => ?_) | with_reducible refine condP_not (condP_dec (fun _ => ?_) (fun _ => ?_)) | with_reducible refine condP_not (condP_eq (fun _ => ?_) (fun _ => ?_)) | with_reducible refine condP_not (condP_intro (fun _ => ?_) (fun _ => ?_)) | with_reducible refine condP_intro (fun _ => ?_) (fun _ => ?_))
  all_goals (try simp only [List.length_map, AV.d.injEq, D.int.injEq, D.bool.injEq, D.str.injEq, D.sl.injEq, true_and, and_true, decide_eq_true_eq, decide_eq_false_iff_not, decide_eq_decide])
  all_goals (try simp only [List.length_map] at *)
  all_goals first | rfl | omega

theorem l11 (r : B32) (s : List UInt8) (hn : s.length < 70368744177664) : Loops Try.prog 0 (loopN Try.prog 52 0) ((J11 r s 0).as 25) (.exit 0) ((J11 r s s.length).as 25) :=
  loops_n (I := fun j => (J11 r s j).as 25) (by simp) s.length 0 (by omega) (fun j _ hj => r11 r s hn j s[j] (by simp [hj])) (q11 r s)
set_option maxRecDepth 100000 in
set_option maxHeartbeats 1000000 in
theorem more11 (r : B32) (s : List UInt8) (hn : s.length < 70368744177664) : FnOK Try.prog 52 ([.d (.int .u32 (iv r)), .d (.str s)]) ([]) (.d (.int .u32 (iv (cMore r s)))) ([]) := by
  refine fnOK_wp (p := (AV.d (D.int IntKind.u32 (bitsI BinOp.xor IntKind.u32 (4294967295 : Int) (iv r))) = AV.d (D.int IntKind.u32 (iv (cReg (~~~r) (List.take (0 : Nat) s))))) ∧ ((AV.d (D.sl (List.map byteD s)) = AV.d (D.sl (List.map byteD s))) ∧ ((AV.d (D.int IntKind.i64 (↑(List.map byteD s).length : Int)) = AV.d (D.int IntKind.i64 (↑s.length : Int))) ∧ ((AV.d (D.int IntKind.i64 (0 : Int)) = AV.d (D.int IntKind.i64 (0 : Int))) ∧ ((LoopsS Try.prog (0 : Nat) (loopN Try.prog (52 : Nat) (0 : Nat)) (J11 (~~~r) s (0 : Nat)) (Exit.exit (0 : Nat)) (J11 (~~~r) s s.length) (25 : Nat)) ∧ ((AV.d (D.int IntKind.u32 (bitsI BinOp.xor IntKind.u32 (4294967295 : Int) (iv (cReg (~~~r) (List.take s.length s))))) = AV.d (D.int IntKind.u32 (iv (cMore r s)))) ∧ (True))))))) (h := {G := G1}) (subs := [⟨[], [], J11 (~~~ r) s 0, .exit 0, J11 (~~~ r) s s.length⟩]) (ws := []) (ρ := []) (by kernel_rfl) ?_
  repeat' (first | with_reducible exact True.intro | with_reducible refine And.intro ?_ ?_ | with_reducible refine condP_dec (fun _ => ?_) (fun _ => ?_) | with_reducible refine condP_eq (fun _ => ?_) (fun _ => ?_) | with_reducible refine condP_ne (fun _ => ?_) (fun _ => ?_) | with_reducible refine condP_not (condP_dec (fun _ => ?_) (fun _ => ?_)) | with_reducible refine condP_not (condP_eq (fun _ => ?_) (fun _ => ?_)) | with_reducible refine condP_not (condP_intro (fun _ => ?_) (fun _ => ?_)) | with_reducible refine condP_intro (fun _ => ?_) (fun _ => ?_))
  all_goals (try simp only [List.length_map, AV.d.injEq, D.int.injEq, D.bool.injEq, D.str.injEq, D.sl.injEq, true_and, and_true, decide_eq_true_eq, decide_eq_false_iff_not, decide_eq_decide])
  all_goals (try simp only [List.length_map] at *)
  all_goals first | exact l11 _ s hn | rfl | (rw [ones_xor]; rfl) | (rw [ones_xor, List.take_length]; rfl) | skip

theorem more (n : Int) (s : List UInt8) (h0 : 0 ≤ n) (h1 : n < 4294967296) (hn : s.length < 70368744177664) : FnOK Try.prog 52 [.d (.int .u32 n), .d (.str s)] [] (.d (.int .u32 (iv (cMore (bv n) s)))) [] := by
  have := more11 (bv n) s hn; rwa [iv_bv h0 h1] at this
set_option maxRecDepth 100000 in
set_option maxHeartbeats 1000000 in
theorem r12 (r : B32) (s : List UInt8) (hn : s.length < 70368744177664) (j : Nat) (c : UInt8) (hc : s[j]? = some c) : Runs Try.prog 0 (loopN Try.prog 53 0) (St.as (J12 r s j) 24) (.normal) (St.as (J12 r s (j+1)) 24) := by
  refine round_wp (p := condP (decide ((↑j : Int) < (↑s.length : Int))) (((0 : Int) ≤ (↑j : Int)) ∧ ((s[(↑j : Int).toNat]? = some c) ∧ ((FnOK Try.prog (58 : Nat) [AV.d (D.int IntKind.u32 (bitsI BinOp.xor IntKind.u32 (iv (cReg r (List.take j s))) (IntKind.u32.wrap (↑c.toNat : Int))))] [] (AV.d (D.int IntKind.u32 (iv (cStep (bv (bitsI BinOp.xor IntKind.u32 (iv (cReg r (List.take j s))) (IntKind.u32.wrap (↑c.toNat : Int)))))))) []) ∧ ((AV.d (D.str s) = AV.d (D.str s)) ∧ ((AV.d (D.int IntKind.u32 (iv (cStep (bv (bitsI BinOp.xor IntKind.u32 (iv (cReg r (List.take j s))) (IntKind.u32.wrap (↑c.toNat : Int))))))) = AV.d (D.int IntKind.u32 (iv (cReg r (List.take (j + (1 : Nat)) s))))) ∧ ((AV.d (D.int IntKind.i64 (IntKind.i64.wrap ((↑j : Int) + (1 : Int)))) = AV.d (D.int IntKind.i64 (↑(j + (1 : Nat)) : Int))) ∧ (True))))))) (False)) (h := {G := G1, els := [(16, .byte c)]}) (subs := []) (ws := []) (ρ := []) (by kernel_rfl) ?_
  have hj : j < s.length := (List.getElem?_eq_some_iff.1 hc).1
  have hs := reg_succ (r := r) hc
  have hb := iv_bd (cReg r (s.take j) ^^^ BitVec.ofNat 32 c.toNat)
  simp only [take_iv]
  repeat' (first | with_reducible exact True.intro | with_reducible refine And.intro ?_ ?_ | with_reducible refine condP_dec (fun _ => ?_) (fun _ => ?_) | with_reducible refine condP_eq (fun _ => ?_) (fun _ => ?_) | with_reducible refine condP_ne (fun _ => ?_) (fun _ => ?_) | with_reducible refine condP_not (condP_dec (fun _ => ?_) (fun _ => ?_)) | with_reducible refine condP_not (condP_eq (fun _ => ?_) (fun _ => ?_)) | with_reducible refine condP_not (condP_intro (fun _ => ?_) (fun _ => ?_)) | with_reducible refine condP_intro (fun _ => ?_) (fun _ => ?_))
  all_goals (try simp only [List.length_map, AV.d.injEq, D.int.injEq, D.bool.injEq, D.str.injEq, D.sl.injEq, true_and, and_true, decide_eq_true_eq, decide_eq_false_iff_not, decide_eq_decide])
  all_goals (try simp only [List.length_map] at *)
  all_goals first | exact step _ hb.1 hb.2 | exact hc | rfl | (rw [hs, bv_iv]; rfl) | omega | (simp only [IntKind.wrap_i64] at *; omega) | skip

set_option maxRecDepth 100000 in
set_option maxHeartbeats 1000000 in
theorem q12 (r : B32) (s : List UInt8) : Runs Try.prog 0 (loopN Try.prog 53 0) (St.as (J12 r s s.length) 24) (.exit 0) (St.as (J12 r s s.length) 24) := by
  refine round_wp (p := condP (decide ((↑s.length : Int) < (↑s.length : Int))) (False) ((AV.d (D.str s) = AV.d (D.str s)) ∧ ((AV.d (D.int IntKind.u32 (iv (cReg r (List.take s.length s)))) = AV.d (D.int IntKind.u32 (iv (cReg r (List.take s.length s))))) ∧ ((AV.d (D.int IntKind.i64 (↑s.length : Int)) = AV.d (D.int IntKind.i64 (↑s.length : Int))) ∧ (True))))) (h := {}) (subs := []) (ws := []) (ρ := []) (by kernel_rfl) ?_
  repeat' (first | with_reducible exact True.intro | with_reducible refine And.intro ?_ ?_ | with_reducible refine condP_dec (fun _ => ?_) (fun _ => ?_) | with_reducible refine condP_eq (fun _ => ?_) (fun _ => ?_) | with_reducible refine condP_ne (fun _ => ?_) (fun _ => ?_) | with_reducible refine condP_not (condP_dec (fun _ => ?_) (fun _ => ?_)) | with_reducible refine condP_not (condP_eq (fun _ => ?_) (fun _ => ?_)) | with_reducible refine condP_not (condP_intro (fun _ => ?_) (fun _ => ?_)) | with_reducible refine condP_intro (fun _ => ?_) (fun _ => ?_))
  all_goals (try simp only [List.length_map, AV.d.injEq, D.int.injEq, D.bool.injEq, D.str.injEq, D.sl.injEq, true_and, and_true, decide_eq_true_eq, decide_eq_false_iff_not, decide_eq_decide])
  all_goals (try simp only [List.length_map] at *)
  all_goals first | rfl | omega

theorem l12 (r : B32) (s : List UInt8) (hn : s.length < 70368744177664) : Loops Try.prog 0 (loopN Try.prog 53 0) ((J12 r s 0).as 24) (.exit 0) ((J12 r s s.length).as 24) :=
  loops_n (I := fun j => (J12 r s j).as 24) (by simp) s.length 0 (by omega) (fun j _ hj => r12 r s hn j s[j] (by simp [hj])) (q12 r s)
set_option maxRecDepth 100000 in
set_option maxHeartbeats 1000000 in
theorem more12 (r : B32) (s : List UInt8) (hn : s.length < 70368744177664) : FnOK Try.prog 53 ([.d (.int .u32 (iv r)), .d (.str s)]) ([]) (.d (.int .u32 (iv (cMore r s)))) ([]) := by
  refine fnOK_wp (p := (FnOK Try.prog (57 : Nat) [AV.d (D.int IntKind.u32 (iv r))] [] (AV.d (D.int IntKind.u32 (iv (~~~bv (iv r))))) []) ∧ ((AV.d (D.str s) = AV.d (D.str s)) ∧ ((AV.d (D.int IntKind.u32 (iv (~~~bv (iv r)))) = AV.d (D.int IntKind.u32 (iv (cReg (~~~r) (List.take (0 : Nat) s))))) ∧ ((AV.d (D.int IntKind.i64 (0 : Int)) = AV.d (D.int IntKind.i64 (0 : Int))) ∧ ((LoopsS Try.prog (0 : Nat) (loopN Try.prog (53 : Nat) (0 : Nat)) (J12 (~~~r) s (0 : Nat)) (Exit.exit (0 : Nat)) (J12 (~~~r) s s.length) (24 : Nat)) ∧ ((FnOK Try.prog (57 : Nat) [AV.d (D.int IntKind.u32 (iv (cReg (~~~r) (List.take s.length s))))] [] (AV.d (D.int IntKind.u32 (iv (~~~bv (iv (cReg (~~~r) (List.take s.length s))))))) []) ∧ ((AV.d (D.int IntKind.u32 (iv (~~~bv (iv (cReg (~~~r) (List.take s.length s)))))) = AV.d (D.int IntKind.u32 (iv (cMore r s)))) ∧ (True)))))))) (h := {G := G1}) (subs := [⟨[], [], J12 (~~~ r) s 0, .exit 0, J12 (~~~ r) s s.length⟩]) (ws := []) (ρ := []) (by kernel_rfl) ?_
  have hb := iv_bd r
  have hc := iv_bd (cReg (~~~ r) s)
  simp only [bv_iv, List.take_length]
  repeat' (first | with_reducible exact True.intro | with_reducible refine And.intro ?_ ?_ | with_reducible refine condP_dec (fun _ => ?_) (fun _ => ?_) | with_reducible refine condP_eq (fun _ => ?_) (fun _ => ?_) | with_reducible refine condP_ne (fun _ => ?_) (fun _ => ?_) | with_reducible refine condP_not (condP_dec (fun _ => ?_) (fun _ => ?_)) | with_reducible refine condP_not (condP_eq (fun _ => ?_) (fun _ => ?_)) | with_reducible refine condP_not (condP_intro (fun _ => ?_) (fun _ => ?_)) | with_reducible refine condP_intro (fun _ => ?_) (fun _ => ?_))
  all_goals (try simp only [List.length_map, AV.d.injEq, D.int.injEq, D.bool.injEq, D.str.injEq, D.sl.injEq, true_and, and_true, decide_eq_true_eq, decide_eq_false_iff_not, decide_eq_decide])
  all_goals (try simp only [List.length_map] at *)
  all_goals first | exact l12 _ s hn | rfl | exact turned' _ | skip

/-! ### Sums, seals -/
def U3 : D → D
  | .str s => .str (cSeal s)
  | d => d
def G2 : List (Nat × (List D → Option (AV × List Ob))) := G1 ++ [
  (52, fun | [.int _ n, .str s] => some (.d (.int .u32 (iv (cMore (bv n) s))), []) | _ => none),
  (53, fun | [.int _ n, .str s] => some (.d (.int .u32 (iv (cMore (bv n) s))), []) | _ => none),
  (43, fun | [.str s] => some (.d (.int .u32 (iv (cSum s))), []) | _ => none),
  (46, fun | [.str s] => some (.d (.int .u32 (iv (cSum s))), []) | _ => none),
  (45, fun | [.int _ n] => some (.d (.str (cFour (bv n))), []) | _ => none),
  (25, fun | [.str s] => some (.d (.str (cSeal s)), []) | _ => none),
  (28, fun | [.str s] => some (.d (.str (cSeal s)), []) | _ => none),
  (31, fun | [.str s] => some (.tup [.d (.str (cUnseal s).1), .d (.int .i64 (cUnseal s).2)], []) | _ => none),
  (36, fun | [.str s] => some (.tup [.d (.str (cUnseal s).1), .d (.int .i64 (cUnseal s).2)], []) | _ => none),
  (99999, fun _ => some (.d (.bool true), []))]
set_option maxRecDepth 100000 in
set_option maxHeartbeats 1000000 in
theorem sum9 (s : List UInt8) (hn : s.length < 70368744177664) : FnOK Try.prog 43 ([.d (.str s)]) ([]) (.d (.int .u32 (iv (cSum s)))) ([]) := by
  refine fnOK_wp (p := (FnOK Try.prog (52 : Nat) [AV.d (D.int IntKind.u32 (0 : Int)), AV.d (D.str s)] [] (AV.d (D.int IntKind.u32 (iv (cMore (bv (0 : Int)) s)))) []) ∧ ((AV.d (D.int IntKind.u32 (iv (cMore (bv (0 : Int)) s))) = AV.d (D.int IntKind.u32 (iv (cSum s)))) ∧ (True))) (h := {G := G2}) (subs := []) (ws := []) (ρ := []) (by kernel_rfl) ?_
  repeat' (first | with_reducible exact True.intro | with_reducible refine And.intro ?_ ?_ | with_reducible refine condP_dec (fun _ => ?_) (fun _ => ?_) | with_reducible refine condP_eq (fun _ => ?_) (fun _ => ?_) | with_reducible refine condP_ne (fun _ => ?_) (fun _ => ?_) | with_reducible refine condP_not (condP_dec (fun _ => ?_) (fun _ => ?_)) | with_reducible refine condP_not (condP_eq (fun _ => ?_) (fun _ => ?_)) | with_reducible refine condP_not (condP_intro (fun _ => ?_) (fun _ => ?_)) | with_reducible refine condP_intro (fun _ => ?_) (fun _ => ?_))
  all_goals first | exact more 0 s (by decide) (by decide) hn | rfl

set_option maxRecDepth 100000 in
set_option maxHeartbeats 1000000 in
theorem sum10 (s : List UInt8) (hn : s.length < 70368744177664) : FnOK Try.prog 46 ([.d (.str s)]) ([]) (.d (.int .u32 (iv (cSum s)))) ([]) := by
  refine fnOK_wp (p := (FnOK Try.prog (53 : Nat) [AV.d (D.int IntKind.u32 (0 : Int)), AV.d (D.str s)] [] (AV.d (D.int IntKind.u32 (iv (cMore (bv (0 : Int)) s)))) []) ∧ ((AV.d (D.int IntKind.u32 (iv (cMore (bv (0 : Int)) s))) = AV.d (D.int IntKind.u32 (iv (cSum s)))) ∧ (True))) (h := {G := G2}) (subs := []) (ws := []) (ρ := []) (by kernel_rfl) ?_
  repeat' (first | with_reducible exact True.intro | with_reducible refine And.intro ?_ ?_ | with_reducible refine condP_dec (fun _ => ?_) (fun _ => ?_) | with_reducible refine condP_eq (fun _ => ?_) (fun _ => ?_) | with_reducible refine condP_ne (fun _ => ?_) (fun _ => ?_) | with_reducible refine condP_not (condP_dec (fun _ => ?_) (fun _ => ?_)) | with_reducible refine condP_not (condP_eq (fun _ => ?_) (fun _ => ?_)) | with_reducible refine condP_not (condP_intro (fun _ => ?_) (fun _ => ?_)) | with_reducible refine condP_intro (fun _ => ?_) (fun _ => ?_))
  all_goals first | exact more12 0#32 s hn | rfl

theorem b8_of {n : Int} {x : B32} (h : n = ((x.toNat / 16777216 % 256 : Nat) : Int)) : D.int .u8 n = byteD (b8 (x.toNat / 16777216)) := by rw [h]; unfold byteD; rw [b8_nat]
theorem byteEq {n : Int} {m : Nat} (h : n = ((m % 256 : Nat) : Int)) : D.int .u8 n = byteD (b8 m) := by rw [h]; unfold byteD; rw [b8_nat]
theorem four_bytes {a b c d : Int} {x : B32} (ha : a = ((x.toNat / 16777216 % 256 : Nat) : Int)) (hb : b = ((x.toNat / 65536 % 256 : Nat) : Int)) (hc : c = ((x.toNat / 256 % 256 : Nat) : Int)) (hd : d = ((x.toNat % 256 : Nat) : Int)) :
    [D.int .u8 a, D.int .u8 b, D.int .u8 c, D.int .u8 d] = (cFour x).map byteD := by
  rw [byteEq ha, byteEq hb, byteEq hc, byteEq hd]; rfl
set_option maxRecDepth 100000 in
set_option maxHeartbeats 1000000 in
theorem four' (x : B32) : FnOK Try.prog 45 ([.d (.int .u32 (iv x))]) ([]) (.d (.str (cFour x))) ([]) := by
  refine fnOK_wp (p := ((16777216 : Int) ≠ (0 : Int)) ∧ (((65536 : Int) ≠ (0 : Int)) ∧ (((256 : Int) ≠ (0 : Int)) ∧ (((256 : Int) ≠ (0 : Int)) ∧ (((256 : Int) ≠ (0 : Int)) ∧ (((256 : Int) ≠ (0 : Int)) ∧ (([D.int IntKind.u8 (IntKind.u8.wrap (IntKind.u32.wrap ((iv x).tdiv (16777216 : Int)))), D.int IntKind.u8 (IntKind.u8.wrap ((IntKind.u32.wrap ((iv x).tdiv (65536 : Int))).tmod (256 : Int))), D.int IntKind.u8 (IntKind.u8.wrap ((IntKind.u32.wrap ((iv x).tdiv (256 : Int))).tmod (256 : Int))), D.int IntKind.u8 (IntKind.u8.wrap ((iv x).tmod (256 : Int)))] = [D.int IntKind.u8 (↑(b8 (BitVec.toNat x / (16777216 : Nat))).toNat : Int), D.int IntKind.u8 (↑(b8 (BitVec.toNat x / (65536 : Nat))).toNat : Int), D.int IntKind.u8 (↑(b8 (BitVec.toNat x / (256 : Nat))).toNat : Int), D.int IntKind.u8 (↑(b8 (BitVec.toNat x)).toNat : Int)]) ∧ ((AV.d (D.str (cFour x)) = AV.d (D.str (cFour x))) ∧ (True))))))))) (h := {G := G2, H := [(1, [(15, .str (cFour x))])]}) (subs := []) (ws := []) (ρ := []) (by kernel_rfl) ?_
  have hx := iv_bd x
  have e : ∀ k : Int, 0 ≤ k → (iv x).tdiv k = iv x / k := fun k _ => Int.tdiv_eq_ediv_of_nonneg hx.1
  have e1 := e 16777216 (by omega)
  have e2 := e 65536 (by omega)
  have e3 := e 256 (by omega)
  have m : ∀ y : Int, 0 ≤ y → y.tmod 256 = y % 256 := fun y h => Int.tmod_eq_emod_of_nonneg h
  repeat' (first | with_reducible exact True.intro | with_reducible refine And.intro ?_ ?_ | with_reducible refine condP_dec (fun _ => ?_) (fun _ => ?_) | with_reducible refine condP_eq (fun _ => ?_) (fun _ => ?_) | with_reducible refine condP_ne (fun _ => ?_) (fun _ => ?_) | with_reducible refine condP_not (condP_dec (fun _ => ?_) (fun _ => ?_)) | with_reducible refine condP_not (condP_eq (fun _ => ?_) (fun _ => ?_)) | with_reducible refine condP_not (condP_intro (fun _ => ?_) (fun _ => ?_)) | with_reducible refine condP_intro (fun _ => ?_) (fun _ => ?_))
  all_goals first | decide | rfl | skip
  rw [e1, e2, e3, IntKind.wrap_u32, IntKind.wrap_u32, IntKind.wrap_u32, m _ (by omega), m _ (by omega), m _ (by omega), IntKind.wrap_u8, IntKind.wrap_u8, IntKind.wrap_u8, IntKind.wrap_u8]
  unfold iv at hx ⊢
  exact four_bytes (by omega) (by omega) (by omega) (by omega)

theorem four (n : Int) (h0 : 0 ≤ n) (h1 : n < 4294967296) : FnOK Try.prog 45 [.d (.int .u32 n)] [] (.d (.str (cFour (bv n)))) [] := by
  have := four' (bv n); rwa [iv_bv h0 h1] at this
set_option maxRecDepth 100000 in
set_option maxHeartbeats 1000000 in
theorem seal13 (s : List UInt8) (hn : s.length < 70368744177600) : FnOK Try.prog 25 ([.d (.str s)]) ([]) (.d (.str (cSeal s))) ([]) := by
  refine fnOK_wp (p := (FnOK Try.prog (43 : Nat) [AV.d (D.str s)] [] (AV.d (D.int IntKind.u32 (iv (cSum s)))) []) ∧ (((0 : Int) ≤ (24 : Int)) ∧ (((0 : Int) ≤ (16 : Int)) ∧ (((0 : Int) ≤ (8 : Int)) ∧ (((1 : Nat) = (1 : Nat)) ∧ (((0 : Nat) = (0 : Nat)) ∧ (((0 : Nat) = (0 : Nat)) ∧ (((4 : Nat) = (4 : Nat)) ∧ (((0 : Nat) = (0 : Nat)) ∧ (((0 : Nat) = (0 : Nat)) ∧ (((4 : Nat) = (4 : Nat)) ∧ (((0 : Nat) < (4 : Nat)) ∧ (((0 : Int) ≤ (0 : Int) ∧ (0 : Int) ≤ (↑(4 : Nat) : Int) ∧ (↑(4 : Nat) : Int) ≤ (↑(4 : Nat) : Int)) ∧ (([D.int IntKind.u8 (IntKind.u8.wrap ((iv (cSum s)).fdiv (16777216 : Int))), D.int IntKind.u8 (IntKind.u8.wrap ((iv (cSum s)).fdiv (65536 : Int))), D.int IntKind.u8 (IntKind.u8.wrap ((iv (cSum s)).fdiv (256 : Int))), D.int IntKind.u8 (IntKind.u8.wrap (iv (cSum s)))] = [D.int IntKind.u8 (↑(b8 (BitVec.toNat (cSum s) / (16777216 : Nat))).toNat : Int), D.int IntKind.u8 (↑(b8 (BitVec.toNat (cSum s) / (65536 : Nat))).toNat : Int), D.int IntKind.u8 (↑(b8 (BitVec.toNat (cSum s) / (256 : Nat))).toNat : Int), D.int IntKind.u8 (↑(b8 (BitVec.toNat (cSum s))).toNat : Int)]) ∧ (((↑(s.length + (cFour (cSum s)).length) : Int) ≤ (9223372036854775807 : Int)) ∧ ((AV.d (D.str (s ++ cFour (cSum s))) = AV.d (D.str (cSeal s))) ∧ (True))))))))))))))))) (h := {G := G2, H := [(2, [(12, .arr), (13, .arr)]), (3, [(2, .str (cFour (cSum s)))])]}) (subs := []) (ws := []) (ρ := []) (by kernel_rfl) ?_
  have hx := iv_bd (cSum s)
  have e : ∀ k : Int, 0 ≤ k → (iv (cSum s)).fdiv k = iv (cSum s) / k := fun k hk => Int.fdiv_eq_ediv_of_nonneg _ hk
  have e1 := e 16777216 (by omega)
  have e2 := e 65536 (by omega)
  have e3 := e 256 (by omega)
  repeat' (first | with_reducible exact True.intro | with_reducible refine And.intro ?_ ?_ | with_reducible refine condP_dec (fun _ => ?_) (fun _ => ?_) | with_reducible refine condP_eq (fun _ => ?_) (fun _ => ?_) | with_reducible refine condP_ne (fun _ => ?_) (fun _ => ?_) | with_reducible refine condP_not (condP_dec (fun _ => ?_) (fun _ => ?_)) | with_reducible refine condP_not (condP_eq (fun _ => ?_) (fun _ => ?_)) | with_reducible refine condP_not (condP_intro (fun _ => ?_) (fun _ => ?_)) | with_reducible refine condP_intro (fun _ => ?_) (fun _ => ?_))
  all_goals first | exact sum9 s (by omega) | decide | rfl | (simp [cFour_len]; omega) | skip
  rw [e1, e2, e3, IntKind.wrap_u8, IntKind.wrap_u8, IntKind.wrap_u8, IntKind.wrap_u8]
  unfold iv at hx ⊢
  exact four_bytes (by omega) (by omega) (by omega) (by omega)

set_option maxRecDepth 100000 in
set_option maxHeartbeats 1000000 in
theorem seal14 (s : List UInt8) (hn : s.length < 70368744177600) : FnOK Try.prog 28 ([.d (.str s)]) ([]) (.d (.str (cSeal s))) ([]) := by
  refine fnOK_wp (p := (FnOK Try.prog (46 : Nat) [AV.d (D.str s)] [] (AV.d (D.int IntKind.u32 (iv (cSum s)))) []) ∧ ((FnOK Try.prog (45 : Nat) [AV.d (D.int IntKind.u32 (iv (cSum s)))] [] (AV.d (D.str (cFour (bv (iv (cSum s)))))) []) ∧ (((↑(s.length + (cFour (bv (iv (cSum s)))).length) : Int) ≤ (9223372036854775807 : Int)) ∧ ((AV.d (D.str (s ++ cFour (bv (iv (cSum s))))) = AV.d (D.str (cSeal s))) ∧ (True))))) (h := {G := G2}) (subs := []) (ws := []) (ρ := []) (by kernel_rfl) ?_
  simp only [bv_iv]
  repeat' (first | with_reducible exact True.intro | with_reducible refine And.intro ?_ ?_ | with_reducible refine condP_dec (fun _ => ?_) (fun _ => ?_) | with_reducible refine condP_eq (fun _ => ?_) (fun _ => ?_) | with_reducible refine condP_ne (fun _ => ?_) (fun _ => ?_) | with_reducible refine condP_not (condP_dec (fun _ => ?_) (fun _ => ?_)) | with_reducible refine condP_not (condP_eq (fun _ => ?_) (fun _ => ?_)) | with_reducible refine condP_not (condP_intro (fun _ => ?_) (fun _ => ?_)) | with_reducible refine condP_intro (fun _ => ?_) (fun _ => ?_))
  all_goals first | exact sum10 s (by omega) | exact four' _ | rfl | (simp [cFour_len]; omega) | skip

/-! ### Off a text -/
theorem cWord_snoc (l : List UInt8) (c : UInt8) : cWord (l ++ [c]) = (cWord l <<< 8) ||| BitVec.ofNat 32 c.toNat := by unfold cWord; rw [List.foldl_append]; rfl
def J15 (s : List UInt8) (j : Nat) : St := ⟨[(0, .d (.str s)), (4, .d (.int .i64 ((s.length : Int) - 4))), (5, .d (.int .u32 (iv (cWord ((s.drop (s.length - 4)).take j))))), (6, .d (.int .i64 ((s.length : Int) - 4 + j)))], []⟩
theorem un_short {s : List UInt8} (h : s.length < 4) : cUnseal s = ([], 3) := if_pos h
theorem un_ok {s : List UInt8} (h : ¬ s.length < 4) (g : s = cSeal (s.take (s.length - 4))) : cUnseal s = (s.take (s.length - 4), 0) := by unfold cUnseal; rw [if_neg h, if_pos g]
theorem un_bad {s : List UInt8} (h : ¬ s.length < 4) (g : ¬ s = cSeal (s.take (s.length - 4))) : cUnseal s = ([], 11) := by unfold cUnseal; rw [if_neg h, if_neg g]
set_option maxRecDepth 100000 in
set_option maxHeartbeats 1000000 in
theorem r15 (s : List UInt8) (h4 : 4 ≤ s.length) (hn : s.length < 70368744177600) (j : Nat) (c : UInt8) (hc : (s.drop (s.length - 4))[j]? = some c) : Runs Try.prog 0 (loopN Try.prog 31 0) (St.as (J15 s j) 35) (.normal) (St.as (J15 s (j+1)) 35) := by
  refine round_wp (p := condP (decide ((↑s.length : Int) - (4 : Int) + (↑j : Int) < (↑s.length : Int))) (((0 : Int) ≤ (8 : Int)) ∧ (((0 : Int) ≤ (↑s.length : Int) - (4 : Int) + (↑j : Int)) ∧ ((s[((↑s.length : Int) - (4 : Int) + (↑j : Int)).toNat]? = some c) ∧ ((AV.d (D.str s) = AV.d (D.str s)) ∧ ((AV.d (D.int IntKind.i64 ((↑s.length : Int) - (4 : Int))) = AV.d (D.int IntKind.i64 ((↑s.length : Int) - (4 : Int)))) ∧ ((AV.d (D.int IntKind.u32 (bitsI BinOp.or IntKind.u32 (IntKind.u32.wrap (iv (cWord (List.take j (List.drop (s.length - (4 : Nat)) s))) * (256 : Int))) (IntKind.u32.wrap (↑c.toNat : Int)))) = AV.d (D.int IntKind.u32 (iv (cWord (List.take (j + (1 : Nat)) (List.drop (s.length - (4 : Nat)) s)))))) ∧ ((AV.d (D.int IntKind.i64 (IntKind.i64.wrap ((↑s.length : Int) - (4 : Int) + (↑j : Int) + (1 : Int)))) = AV.d (D.int IntKind.i64 ((↑s.length : Int) - (4 : Int) + (↑(j + (1 : Nat)) : Int)))) ∧ (True)))))))) (False)) (h := {G := G2, els := [(21, .byte c)]}) (subs := []) (ws := []) (ρ := []) (by kernel_rfl) ?_
  have hj : s.length - 4 + j < s.length := by have := (List.getElem?_eq_some_iff.1 hc).1; simp at this; omega
  have hc2 : s[s.length - 4 + j]? = some c := by rw [List.getElem?_drop] at hc; exact hc
  have hs : (s.drop (s.length - 4)).take (j + 1) = (s.drop (s.length - 4)).take j ++ [c] := by rw [List.take_add_one, hc]; rfl
  have ht : ((s.length : Int) - 4 + j).toNat = s.length - 4 + j := by omega
  rw [hs, cWord_snoc]
  simp only [shl_iv, byte_iv, wrap_iv, or_iv, ht]
  repeat' (first | with_reducible exact True.intro | with_reducible refine And.intro ?_ ?_ | with_reducible refine condP_dec (fun _ => ?_) (fun _ => ?_) | with_reducible refine condP_eq (fun _ => ?_) (fun _ => ?_) | with_reducible refine condP_ne (fun _ => ?_) (fun _ => ?_) | with_reducible refine condP_not (condP_dec (fun _ => ?_) (fun _ => ?_)) | with_reducible refine condP_not (condP_eq (fun _ => ?_) (fun _ => ?_)) | with_reducible refine condP_not (condP_intro (fun _ => ?_) (fun _ => ?_)) | with_reducible refine condP_intro (fun _ => ?_) (fun _ => ?_))
  all_goals (try simp only [List.length_map, AV.d.injEq, D.int.injEq, D.bool.injEq, D.str.injEq, D.sl.injEq, true_and, and_true, decide_eq_true_eq, decide_eq_false_iff_not, decide_eq_decide])
  all_goals (try simp only [List.length_map] at *)
  all_goals first | exact hc2 | rfl | omega | (simp only [IntKind.wrap_i64] at *; omega) | skip

set_option maxRecDepth 100000 in
set_option maxHeartbeats 1000000 in
theorem q15 (s : List UInt8) (h4 : 4 ≤ s.length) : Runs Try.prog 0 (loopN Try.prog 31 0) (St.as (J15 s 4) 35) (.exit 0) (St.as (J15 s 4) 35) := by
  refine round_wp (p := condP (decide ((↑s.length : Int) - (4 : Int) + (4 : Int) < (↑s.length : Int))) (False) ((AV.d (D.str s) = AV.d (D.str s)) ∧ ((AV.d (D.int IntKind.i64 ((↑s.length : Int) - (4 : Int))) = AV.d (D.int IntKind.i64 ((↑s.length : Int) - (4 : Int)))) ∧ ((AV.d (D.int IntKind.u32 (iv (cWord (List.take (4 : Nat) (List.drop (s.length - (4 : Nat)) s))))) = AV.d (D.int IntKind.u32 (iv (cWord (List.take (4 : Nat) (List.drop (s.length - (4 : Nat)) s)))))) ∧ ((AV.d (D.int IntKind.i64 ((↑s.length : Int) - (4 : Int) + (4 : Int))) = AV.d (D.int IntKind.i64 ((↑s.length : Int) - (4 : Int) + (4 : Int)))) ∧ (True)))))) (h := {}) (subs := []) (ws := []) (ρ := []) (by kernel_rfl) ?_
  repeat' (first | with_reducible exact True.intro | with_reducible refine And.intro ?_ ?_ | with_reducible refine condP_dec (fun _ => ?_) (fun _ => ?_) | with_reducible refine condP_eq (fun _ => ?_) (fun _ => ?_) | with_reducible refine condP_ne (fun _ => ?_) (fun _ => ?_) | with_reducible refine condP_not (condP_dec (fun _ => ?_) (fun _ => ?_)) | with_reducible refine condP_not (condP_eq (fun _ => ?_) (fun _ => ?_)) | with_reducible refine condP_not (condP_intro (fun _ => ?_) (fun _ => ?_)) | with_reducible refine condP_intro (fun _ => ?_) (fun _ => ?_))
  all_goals (try simp only [List.length_map, AV.d.injEq, D.int.injEq, D.bool.injEq, D.str.injEq, D.sl.injEq, true_and, and_true, decide_eq_true_eq, decide_eq_false_iff_not, decide_eq_decide])
  all_goals (try simp only [List.length_map] at *)
  all_goals first | rfl | omega

theorem l15 (s : List UInt8) (h4 : 4 ≤ s.length) (hn : s.length < 70368744177600) : Loops Try.prog 0 (loopN Try.prog 31 0) ((J15 s 0).as 35) (.exit 0) ((J15 s 4).as 35) :=
  loops_n (I := fun j => (J15 s j).as 35) (by simp) 4 0 (by omega) (fun j _ hj => r15 s h4 hn j ((s.drop (s.length - 4))[j]'(by simp; omega)) (by simp)) (q15 s h4)
set_option maxRecDepth 100000 in
set_option maxHeartbeats 1000000 in
theorem unseal15 (s : List UInt8) (hn : s.length < 70368744177600) : FnOK Try.prog 31 ([.d (.str s)]) ([]) (.tup [.d (.str (cUnseal s).1), .d (.int .i64 (cUnseal s).2)]) ([]) := by
  refine fnOK_wp (p := condP (decide (IntKind.i64.wrap ((↑s.length : Int) - (4 : Int)) < (0 : Int))) ((AV.tup [AV.d (D.str []), AV.d (D.int IntKind.i64 (3 : Int))] = AV.tup [AV.d (D.str (cUnseal s).fst), AV.d (D.int IntKind.i64 (cUnseal s).snd)]) ∧ (True)) ((AV.d (D.str s) = AV.d (D.str s)) ∧ ((AV.d (D.int IntKind.i64 (IntKind.i64.wrap ((↑s.length : Int) - (4 : Int)))) = AV.d (D.int IntKind.i64 ((↑s.length : Int) - (4 : Int)))) ∧ ((AV.d (D.int IntKind.u32 (0 : Int)) = AV.d (D.int IntKind.u32 (iv (cWord (List.take (0 : Nat) (List.drop (s.length - (4 : Nat)) s)))))) ∧ ((AV.d (D.int IntKind.i64 (IntKind.i64.wrap ((↑s.length : Int) - (4 : Int)))) = AV.d (D.int IntKind.i64 ((↑s.length : Int) - (4 : Int) + (0 : Int)))) ∧ ((LoopsS Try.prog (0 : Nat) (loopN Try.prog (31 : Nat) (0 : Nat)) (J15 s (0 : Nat)) (Exit.exit (0 : Nat)) (J15 s (4 : Nat)) (35 : Nat)) ∧ (((0 : Int) ≤ (0 : Int) ∧ (0 : Int) ≤ (↑s.length : Int) - (4 : Int) ∧ (↑s.length : Int) - (4 : Int) ≤ (↑s.length : Int)) ∧ ((FnOK Try.prog (43 : Nat) [AV.d (D.str (List.drop (0 : Nat) (List.take ((↑s.length : Int) - (4 : Int)).toNat s)))] [] (AV.d (D.int IntKind.u32 (iv (cSum (List.drop (0 : Nat) (List.take ((↑s.length : Int) - (4 : Int)).toNat s)))))) []) ∧ (condP (iv (cSum (List.drop (0 : Nat) (List.take ((↑s.length : Int) - (4 : Int)).toNat s))) != iv (cWord (List.take (4 : Nat) (List.drop (s.length - (4 : Nat)) s)))) ((AV.tup [AV.d (D.str []), AV.d (D.int IntKind.i64 (11 : Int))] = AV.tup [AV.d (D.str (cUnseal s).fst), AV.d (D.int IntKind.i64 (cUnseal s).snd)]) ∧ (True)) (((0 : Int) ≤ (0 : Int) ∧ (0 : Int) ≤ (↑s.length : Int) - (4 : Int) ∧ (↑s.length : Int) - (4 : Int) ≤ (↑s.length : Int)) ∧ ((AV.tup [AV.d (D.str (List.drop (0 : Nat) (List.take ((↑s.length : Int) - (4 : Int)).toNat s))), AV.d (D.int IntKind.i64 (0 : Int))] = AV.tup [AV.d (D.str (cUnseal s).fst), AV.d (D.int IntKind.i64 (cUnseal s).snd)]) ∧ (True)))))))))))) (h := {G := G2}) (subs := [⟨[], [], J15 s 0, .exit 0, J15 s 4⟩]) (ws := []) (ρ := []) (by kernel_rfl) ?_
  have hw : IntKind.i64.wrap ((s.length : Int) - 4) = (s.length : Int) - 4 := by rw [IntKind.wrap_i64]; omega
  have ht : ((s.length : Int) - 4).toNat = s.length - 4 := by omega
  have hd : (s.drop (s.length - 4)).take 4 = s.drop (s.length - 4) := List.take_of_length_le (by simp; omega)
  simp only [hw, ht, hd, List.drop_zero]
  refine condP_dec (fun h => ?_) (fun h => ?_)
  · have := un_short (s := s) (by omega)
    rw [this]; exact ⟨rfl, trivial⟩
  · have hu := unseal_iff (s := s) (by omega)
    repeat' (first | with_reducible exact True.intro | with_reducible refine And.intro ?_ ?_ | with_reducible refine condP_dec (fun _ => ?_) (fun _ => ?_) | with_reducible refine condP_eq (fun _ => ?_) (fun _ => ?_) | with_reducible refine condP_ne (fun _ => ?_) (fun _ => ?_) | with_reducible refine condP_not (condP_dec (fun _ => ?_) (fun _ => ?_)) | with_reducible refine condP_not (condP_eq (fun _ => ?_) (fun _ => ?_)) | with_reducible refine condP_not (condP_intro (fun _ => ?_) (fun _ => ?_)) | with_reducible refine condP_intro (fun _ => ?_) (fun _ => ?_))
    all_goals first | exact sum9 _ (by simp; omega) | exact l15 s (by omega) hn | rfl | omega | (simp; done) | skip
    · rw [un_bad (by omega) (fun g => absurd (congrArg iv (hu.2 g)) (by assumption))]
    · rw [un_ok (by omega) (hu.1 (iv_inj (by assumption)))]

set_option maxRecDepth 100000 in
set_option maxHeartbeats 1000000 in
theorem unseal16 (s : List UInt8) (hn : s.length < 70368744177600) : FnOK Try.prog 36 ([.d (.str s)]) ([]) (.tup [.d (.str (cUnseal s).1), .d (.int .i64 (cUnseal s).2)]) ([]) := by
  refine fnOK_wp (p := condP (decide ((↑s.length : Int) < (4 : Int))) ((AV.tup [AV.d (D.str []), AV.d (D.int IntKind.i64 (3 : Int))] = AV.tup [AV.d (D.str (cUnseal s).fst), AV.d (D.int IntKind.i64 (cUnseal s).snd)]) ∧ (True)) (((0 : Int) ≤ (0 : Int) ∧ (0 : Int) ≤ IntKind.i64.wrap ((↑s.length : Int) - (4 : Int)) ∧ IntKind.i64.wrap ((↑s.length : Int) - (4 : Int)) ≤ (↑s.length : Int)) ∧ ((FnOK Try.prog (28 : Nat) [AV.d (D.str (List.drop (0 : Nat) (List.take (IntKind.i64.wrap ((↑s.length : Int) - (4 : Int))).toNat s)))] [] (AV.d (D.str (cSeal (List.drop (0 : Nat) (List.take (IntKind.i64.wrap ((↑s.length : Int) - (4 : Int))).toNat s))))) []) ∧ (condP (!s == cSeal (List.drop (0 : Nat) (List.take (IntKind.i64.wrap ((↑s.length : Int) - (4 : Int))).toNat s))) ((AV.tup [AV.d (D.str []), AV.d (D.int IntKind.i64 (11 : Int))] = AV.tup [AV.d (D.str (cUnseal s).fst), AV.d (D.int IntKind.i64 (cUnseal s).snd)]) ∧ (True)) ((AV.tup [AV.d (D.str (List.drop (0 : Nat) (List.take (IntKind.i64.wrap ((↑s.length : Int) - (4 : Int))).toNat s))), AV.d (D.int IntKind.i64 (0 : Int))] = AV.tup [AV.d (D.str (cUnseal s).fst), AV.d (D.int IntKind.i64 (cUnseal s).snd)]) ∧ (True)))))) (h := {G := G2}) (subs := []) (ws := []) (ρ := []) (by kernel_rfl) ?_
  have hw : IntKind.i64.wrap ((s.length : Int) - 4) = (s.length : Int) - 4 := by rw [IntKind.wrap_i64]; omega
  have ht : ((s.length : Int) - 4).toNat = s.length - 4 := by omega
  simp only [hw, ht, List.drop_zero]
  refine condP_dec (fun h => ?_) (fun h => ?_)
  · have := un_short (s := s) (by omega)
    rw [this]; exact ⟨rfl, trivial⟩
  · repeat' (first | with_reducible exact True.intro | with_reducible refine And.intro ?_ ?_ | with_reducible refine condP_dec (fun _ => ?_) (fun _ => ?_) | with_reducible refine condP_eq (fun _ => ?_) (fun _ => ?_) | with_reducible refine condP_ne (fun _ => ?_) (fun _ => ?_) | with_reducible refine condP_not (condP_dec (fun _ => ?_) (fun _ => ?_)) | with_reducible refine condP_not (condP_eq (fun _ => ?_) (fun _ => ?_)) | with_reducible refine condP_not (condP_intro (fun _ => ?_) (fun _ => ?_)) | with_reducible refine condP_intro (fun _ => ?_) (fun _ => ?_))
    all_goals first | exact seal14 _ (by simp; omega) | rfl | omega | (simp; done) | skip
    · rename_i g; rw [un_ok (by omega) (by simpa using g)]
    · rename_i g; rw [un_bad (by omega) (by simpa using g)]

/-! ### The laws -/
end Go.Proofs.Ytekhpiiediooiaa.C03
