/-
laws 36: counts: adding to one, finding a name, telling one.
-/
import Derived.Test.YthedplgfpfajdaaS3
set_option linter.unusedSimpArgs false
set_option linter.unusedVariables false
namespace Go.Proofs.Ythedplgfpfajdaa
open Sx Go.RowKit

/-! ### Counts -/
def great : Int := 4611686018427387904
def addC (x n : Int) : Int := if n > great - x then great else x + n
def upC (c : Nat → Int) (k : Nat) (v : Int) : Nat → Int := fun i => if i = k then v else c i
def Bd (c : Nat → Int) : Prop := ∀ i, 0 ≤ c i ∧ c i ≤ great
theorem addC_bd {x n : Int} (hx : 0 ≤ x ∧ x ≤ great) (hn : 0 ≤ n) : 0 ≤ addC x n ∧ addC x n ≤ great := by
  unfold addC
  unfold great at *
  split <;> omega
theorem upC_bd {c : Nat → Int} (h : Bd c) {k : Nat} {v : Int} (hv : 0 ≤ v ∧ v ≤ great) : Bd (upC c k v) := fun i => by unfold upC; split; exact hv; exact h i
def dnQ (q : Bool) : Int := if q then 1 else 0
def nsQ (q : Bool) : List D := if q then nmD else []
theorem nq (q : Bool) : Nq (dnQ q) (nsQ q) := by cases q; exact .inl rfl; exact .inr ⟨rfl, rfl⟩
def tQ (c : Nat → Int) (q : Bool) : Ob := tB c (dnQ q) 0 (nsQ q)
theorem k13 {k : Nat} (h : k < 13) : k = 0 ∨ k = 1 ∨ k = 2 ∨ k = 3 ∨ k = 4 ∨ k = 5 ∨ k = 6 ∨ k = 7 ∨ k = 8 ∨ k = 9 ∨ k = 10 ∨ k = 11 ∨ k = 12 := by omega
theorem tC_get (c : Nat → Int) (dn mu : Int) (ns : List D) {k : Nat} (h : k < 13) : (tC c dn mu ns)[k]? = some (.d (.int .i64 (c k))) := by
  rcases k13 h with h | h | h | h | h | h | h | h | h | h | h | h | h <;> subst h <;> rfl
theorem tC_set (c : Nat → Int) (dn mu : Int) (ns : List D) {k : Nat} (h : k < 13) (v : Int) : (tC c dn mu ns).set k (.d (.int .i64 v)) = tC (upC c k v) dn mu ns := by
  rcases k13 h with h | h | h | h | h | h | h | h | h | h | h | h | h <;> subst h <;> rfl
theorem loadQ (c : Nat → Int) (dn : Int) (ns : List D) {k : Nat} (h : k < 13) : FnOK Try.prog 28 [.ptr 0 k] [tB c dn 0 ns] (.d (.int .i64 (c k))) [tB c dn 0 ns] := load28 _ k _ (tC_get c dn 0 ns h)
theorem storeQ (c : Nat → Int) (dn : Int) (ns : List D) {k : Nat} (h : k < 13) (v : Int) : FnOK Try.prog 29 [.ptr 0 k, .d (.int .i64 v)] [tB c dn 0 ns] (.tup []) [tB (upC c k v) dn 0 ns] := by
  have := store29 (tC c dn 0 ns) k v (show k < 17 by omega)
  rw [tC_set c dn 0 ns h] at this
  exact this
theorem addQ (c : Nat → Int) (dn : Int) (ns : List D) {k : Nat} (h : k < 13) (y v : Int) (hv : IntKind.i64.wrap (c k + y) = v) : FnOK Try.prog 30 [.ptr 0 k, .d (.int .i64 y)] [tB c dn 0 ns] (.d (.int .i64 v)) [tB (upC c k v) dn 0 ns] := by
  have := add30 (tC c dn 0 ns) k (c k) y (tC_get c dn 0 ns h)
  rw [tC_set c dn 0 ns h, hv] at this
  exact this
set_option maxRecDepth 100000 in
set_option maxHeartbeats 1000000 in
theorem more23g (c : Nat → Int) (dn : Int) (ns : List D) (k : Nat) (hk : k < 13) (n v : Int) (k1 : FnOK Try.prog 28 [.ptr 0 k] [tB c dn 0 ns] (.d (.int .i64 (c k))) [tB c dn 0 ns]) (hd : decide (n > IntKind.i64.wrap (4611686018427387904 - c k)) = true) (k2 : FnOK Try.prog 29 [.ptr 0 k, .d (.int .i64 4611686018427387904)] [tB c dn 0 ns] (.tup []) [tB (upC c k v) dn 0 ns]) : FnOK Try.prog 23 ([.ptr 0 0, .d (.int .i64 k), .d (.int .i64 n)]) ([tB c dn 0 ns]) (.tup []) ([tB (upC c k v) dn 0 ns]) := by
  refine fnOK_wp (p := ((0 : Int) ≤ (↑k : Int) ∧ (↑k : Int) < (↑(13 : Nat) : Int)) ∧ ((FnOK Try.prog (28 : Nat) [AV.ptr (0 : Nat) ((0 : Nat) + (↑k : Int).toNat * (1 : Nat))] [Ob.box [AV.d (D.int IntKind.i64 (c (0 : Nat))), AV.d (D.int IntKind.i64 (c (1 : Nat))), AV.d (D.int IntKind.i64 (c (2 : Nat))), AV.d (D.int IntKind.i64 (c (3 : Nat))), AV.d (D.int IntKind.i64 (c (4 : Nat))), AV.d (D.int IntKind.i64 (c (5 : Nat))), AV.d (D.int IntKind.i64 (c (6 : Nat))), AV.d (D.int IntKind.i64 (c (7 : Nat))), AV.d (D.int IntKind.i64 (c (8 : Nat))), AV.d (D.int IntKind.i64 (c (9 : Nat))), AV.d (D.int IntKind.i64 (c (10 : Nat))), AV.d (D.int IntKind.i64 (c (11 : Nat))), AV.d (D.int IntKind.i64 (c (12 : Nat))), AV.d (D.int IntKind.u32 dn), AV.d (D.int IntKind.i32 (0 : Int)), AV.d (D.int IntKind.u32 (0 : Int)), AV.d (D.sl ns)]] (AV.d (D.int IntKind.i64 (c k))) [Ob.box [AV.d (D.int IntKind.i64 (c (0 : Nat))), AV.d (D.int IntKind.i64 (c (1 : Nat))), AV.d (D.int IntKind.i64 (c (2 : Nat))), AV.d (D.int IntKind.i64 (c (3 : Nat))), AV.d (D.int IntKind.i64 (c (4 : Nat))), AV.d (D.int IntKind.i64 (c (5 : Nat))), AV.d (D.int IntKind.i64 (c (6 : Nat))), AV.d (D.int IntKind.i64 (c (7 : Nat))), AV.d (D.int IntKind.i64 (c (8 : Nat))), AV.d (D.int IntKind.i64 (c (9 : Nat))), AV.d (D.int IntKind.i64 (c (10 : Nat))), AV.d (D.int IntKind.i64 (c (11 : Nat))), AV.d (D.int IntKind.i64 (c (12 : Nat))), AV.d (D.int IntKind.u32 dn), AV.d (D.int IntKind.i32 (0 : Int)), AV.d (D.int IntKind.u32 (0 : Int)), AV.d (D.sl ns)]]) ∧ ((D.bool (decide (n > IntKind.i64.wrap ((4611686018427387904 : Int) - c k))) = D.bool true) ∧ ((FnOK Try.prog (29 : Nat) [AV.ptr (0 : Nat) ((0 : Nat) + (↑k : Int).toNat * (1 : Nat)), AV.d (D.int IntKind.i64 (4611686018427387904 : Int))] [Ob.box [AV.d (D.int IntKind.i64 (c (0 : Nat))), AV.d (D.int IntKind.i64 (c (1 : Nat))), AV.d (D.int IntKind.i64 (c (2 : Nat))), AV.d (D.int IntKind.i64 (c (3 : Nat))), AV.d (D.int IntKind.i64 (c (4 : Nat))), AV.d (D.int IntKind.i64 (c (5 : Nat))), AV.d (D.int IntKind.i64 (c (6 : Nat))), AV.d (D.int IntKind.i64 (c (7 : Nat))), AV.d (D.int IntKind.i64 (c (8 : Nat))), AV.d (D.int IntKind.i64 (c (9 : Nat))), AV.d (D.int IntKind.i64 (c (10 : Nat))), AV.d (D.int IntKind.i64 (c (11 : Nat))), AV.d (D.int IntKind.i64 (c (12 : Nat))), AV.d (D.int IntKind.u32 dn), AV.d (D.int IntKind.i32 (0 : Int)), AV.d (D.int IntKind.u32 (0 : Int)), AV.d (D.sl ns)]] (AV.tup []) [Ob.box [AV.d (D.int IntKind.i64 (upC c k v (0 : Nat))), AV.d (D.int IntKind.i64 (upC c k v (1 : Nat))), AV.d (D.int IntKind.i64 (upC c k v (2 : Nat))), AV.d (D.int IntKind.i64 (upC c k v (3 : Nat))), AV.d (D.int IntKind.i64 (upC c k v (4 : Nat))), AV.d (D.int IntKind.i64 (upC c k v (5 : Nat))), AV.d (D.int IntKind.i64 (upC c k v (6 : Nat))), AV.d (D.int IntKind.i64 (upC c k v (7 : Nat))), AV.d (D.int IntKind.i64 (upC c k v (8 : Nat))), AV.d (D.int IntKind.i64 (upC c k v (9 : Nat))), AV.d (D.int IntKind.i64 (upC c k v (10 : Nat))), AV.d (D.int IntKind.i64 (upC c k v (11 : Nat))), AV.d (D.int IntKind.i64 (upC c k v (12 : Nat))), AV.d (D.int IntKind.u32 dn), AV.d (D.int IntKind.i32 (0 : Int)), AV.d (D.int IntKind.u32 (0 : Int)), AV.d (D.sl ns)]]) ∧ ((AV.tup [] = AV.tup []) ∧ ((Ob.box [AV.d (D.int IntKind.i64 (upC c k v (0 : Nat))), AV.d (D.int IntKind.i64 (upC c k v (1 : Nat))), AV.d (D.int IntKind.i64 (upC c k v (2 : Nat))), AV.d (D.int IntKind.i64 (upC c k v (3 : Nat))), AV.d (D.int IntKind.i64 (upC c k v (4 : Nat))), AV.d (D.int IntKind.i64 (upC c k v (5 : Nat))), AV.d (D.int IntKind.i64 (upC c k v (6 : Nat))), AV.d (D.int IntKind.i64 (upC c k v (7 : Nat))), AV.d (D.int IntKind.i64 (upC c k v (8 : Nat))), AV.d (D.int IntKind.i64 (upC c k v (9 : Nat))), AV.d (D.int IntKind.i64 (upC c k v (10 : Nat))), AV.d (D.int IntKind.i64 (upC c k v (11 : Nat))), AV.d (D.int IntKind.i64 (upC c k v (12 : Nat))), AV.d (D.int IntKind.u32 dn), AV.d (D.int IntKind.i32 (0 : Int)), AV.d (D.int IntKind.u32 (0 : Int)), AV.d (D.sl ns)] = Ob.box [AV.d (D.int IntKind.i64 (upC c k v (0 : Nat))), AV.d (D.int IntKind.i64 (upC c k v (1 : Nat))), AV.d (D.int IntKind.i64 (upC c k v (2 : Nat))), AV.d (D.int IntKind.i64 (upC c k v (3 : Nat))), AV.d (D.int IntKind.i64 (upC c k v (4 : Nat))), AV.d (D.int IntKind.i64 (upC c k v (5 : Nat))), AV.d (D.int IntKind.i64 (upC c k v (6 : Nat))), AV.d (D.int IntKind.i64 (upC c k v (7 : Nat))), AV.d (D.int IntKind.i64 (upC c k v (8 : Nat))), AV.d (D.int IntKind.i64 (upC c k v (9 : Nat))), AV.d (D.int IntKind.i64 (upC c k v (10 : Nat))), AV.d (D.int IntKind.i64 (upC c k v (11 : Nat))), AV.d (D.int IntKind.i64 (upC c k v (12 : Nat))), AV.d (D.int IntKind.u32 dn), AV.d (D.int IntKind.i32 (0 : Int)), AV.d (D.int IntKind.u32 (0 : Int)), AV.d (D.sl ns)]) ∧ (True))))))) (h := {H := [(1, [(1, .call [0] (.d (.int .i64 (c k))) [tB c dn 0 ns])]), (2, [(3, .val (.bool true))]), (3, [(1, .call [0] (.tup []) [tB (upC c k v) dn 0 ns])])]}) (subs := []) (ws := []) (ρ := []) (by kernel_rfl) ?_
  have hk' : (0 : Int) ≤ (k : Int) ∧ (k : Int) < ((13 : Nat) : Int) := by omega
  simp only [Int.toNat_natCast, Nat.mul_one, Nat.zero_add]
  repeat' (first | with_reducible exact True.intro | with_reducible refine And.intro ?_ ?_ | with_reducible refine condP_dec (fun _ => ?_) (fun _ => ?_) | with_reducible refine condP_eq (fun _ => ?_) (fun _ => ?_) | with_reducible refine condP_ne (fun _ => ?_) (fun _ => ?_) | with_reducible refine condP_not (condP_dec (fun _ => ?_) (fun _ => ?_)) | with_reducible refine condP_not (condP_eq (fun _ => ?_) (fun _ => ?_)) | with_reducible refine condP_not (condP_intro (fun _ => ?_) (fun _ => ?_)) | with_reducible refine condP_intro (fun _ => ?_) (fun _ => ?_))
  all_goals first | exact k1 | exact k2 | exact hk' | rfl | omega | (refine congrArg D.bool ?_; rw [hd]; done) | skip

set_option maxRecDepth 100000 in
set_option maxHeartbeats 1000000 in
theorem more23s (c : Nat → Int) (dn : Int) (ns : List D) (k : Nat) (hk : k < 13) (n v : Int) (k1 : FnOK Try.prog 28 [.ptr 0 k] [tB c dn 0 ns] (.d (.int .i64 (c k))) [tB c dn 0 ns]) (hd : decide (n > IntKind.i64.wrap (4611686018427387904 - c k)) = false) (k2 : FnOK Try.prog 30 [.ptr 0 k, .d (.int .i64 n)] [tB c dn 0 ns] (.d (.int .i64 v)) [tB (upC c k v) dn 0 ns]) : FnOK Try.prog 23 ([.ptr 0 0, .d (.int .i64 k), .d (.int .i64 n)]) ([tB c dn 0 ns]) (.tup []) ([tB (upC c k v) dn 0 ns]) := by
  refine fnOK_wp (p := ((0 : Int) ≤ (↑k : Int) ∧ (↑k : Int) < (↑(13 : Nat) : Int)) ∧ ((FnOK Try.prog (28 : Nat) [AV.ptr (0 : Nat) ((0 : Nat) + (↑k : Int).toNat * (1 : Nat))] [Ob.box [AV.d (D.int IntKind.i64 (c (0 : Nat))), AV.d (D.int IntKind.i64 (c (1 : Nat))), AV.d (D.int IntKind.i64 (c (2 : Nat))), AV.d (D.int IntKind.i64 (c (3 : Nat))), AV.d (D.int IntKind.i64 (c (4 : Nat))), AV.d (D.int IntKind.i64 (c (5 : Nat))), AV.d (D.int IntKind.i64 (c (6 : Nat))), AV.d (D.int IntKind.i64 (c (7 : Nat))), AV.d (D.int IntKind.i64 (c (8 : Nat))), AV.d (D.int IntKind.i64 (c (9 : Nat))), AV.d (D.int IntKind.i64 (c (10 : Nat))), AV.d (D.int IntKind.i64 (c (11 : Nat))), AV.d (D.int IntKind.i64 (c (12 : Nat))), AV.d (D.int IntKind.u32 dn), AV.d (D.int IntKind.i32 (0 : Int)), AV.d (D.int IntKind.u32 (0 : Int)), AV.d (D.sl ns)]] (AV.d (D.int IntKind.i64 (c k))) [Ob.box [AV.d (D.int IntKind.i64 (c (0 : Nat))), AV.d (D.int IntKind.i64 (c (1 : Nat))), AV.d (D.int IntKind.i64 (c (2 : Nat))), AV.d (D.int IntKind.i64 (c (3 : Nat))), AV.d (D.int IntKind.i64 (c (4 : Nat))), AV.d (D.int IntKind.i64 (c (5 : Nat))), AV.d (D.int IntKind.i64 (c (6 : Nat))), AV.d (D.int IntKind.i64 (c (7 : Nat))), AV.d (D.int IntKind.i64 (c (8 : Nat))), AV.d (D.int IntKind.i64 (c (9 : Nat))), AV.d (D.int IntKind.i64 (c (10 : Nat))), AV.d (D.int IntKind.i64 (c (11 : Nat))), AV.d (D.int IntKind.i64 (c (12 : Nat))), AV.d (D.int IntKind.u32 dn), AV.d (D.int IntKind.i32 (0 : Int)), AV.d (D.int IntKind.u32 (0 : Int)), AV.d (D.sl ns)]]) ∧ ((D.bool (decide (n > IntKind.i64.wrap ((4611686018427387904 : Int) - c k))) = D.bool false) ∧ ((FnOK Try.prog (30 : Nat) [AV.ptr (0 : Nat) ((0 : Nat) + (↑k : Int).toNat * (1 : Nat)), AV.d (D.int IntKind.i64 n)] [Ob.box [AV.d (D.int IntKind.i64 (c (0 : Nat))), AV.d (D.int IntKind.i64 (c (1 : Nat))), AV.d (D.int IntKind.i64 (c (2 : Nat))), AV.d (D.int IntKind.i64 (c (3 : Nat))), AV.d (D.int IntKind.i64 (c (4 : Nat))), AV.d (D.int IntKind.i64 (c (5 : Nat))), AV.d (D.int IntKind.i64 (c (6 : Nat))), AV.d (D.int IntKind.i64 (c (7 : Nat))), AV.d (D.int IntKind.i64 (c (8 : Nat))), AV.d (D.int IntKind.i64 (c (9 : Nat))), AV.d (D.int IntKind.i64 (c (10 : Nat))), AV.d (D.int IntKind.i64 (c (11 : Nat))), AV.d (D.int IntKind.i64 (c (12 : Nat))), AV.d (D.int IntKind.u32 dn), AV.d (D.int IntKind.i32 (0 : Int)), AV.d (D.int IntKind.u32 (0 : Int)), AV.d (D.sl ns)]] (AV.d (D.int IntKind.i64 v)) [Ob.box [AV.d (D.int IntKind.i64 (upC c k v (0 : Nat))), AV.d (D.int IntKind.i64 (upC c k v (1 : Nat))), AV.d (D.int IntKind.i64 (upC c k v (2 : Nat))), AV.d (D.int IntKind.i64 (upC c k v (3 : Nat))), AV.d (D.int IntKind.i64 (upC c k v (4 : Nat))), AV.d (D.int IntKind.i64 (upC c k v (5 : Nat))), AV.d (D.int IntKind.i64 (upC c k v (6 : Nat))), AV.d (D.int IntKind.i64 (upC c k v (7 : Nat))), AV.d (D.int IntKind.i64 (upC c k v (8 : Nat))), AV.d (D.int IntKind.i64 (upC c k v (9 : Nat))), AV.d (D.int IntKind.i64 (upC c k v (10 : Nat))), AV.d (D.int IntKind.i64 (upC c k v (11 : Nat))), AV.d (D.int IntKind.i64 (upC c k v (12 : Nat))), AV.d (D.int IntKind.u32 dn), AV.d (D.int IntKind.i32 (0 : Int)), AV.d (D.int IntKind.u32 (0 : Int)), AV.d (D.sl ns)]]) ∧ ((AV.tup [] = AV.tup []) ∧ ((Ob.box [AV.d (D.int IntKind.i64 (upC c k v (0 : Nat))), AV.d (D.int IntKind.i64 (upC c k v (1 : Nat))), AV.d (D.int IntKind.i64 (upC c k v (2 : Nat))), AV.d (D.int IntKind.i64 (upC c k v (3 : Nat))), AV.d (D.int IntKind.i64 (upC c k v (4 : Nat))), AV.d (D.int IntKind.i64 (upC c k v (5 : Nat))), AV.d (D.int IntKind.i64 (upC c k v (6 : Nat))), AV.d (D.int IntKind.i64 (upC c k v (7 : Nat))), AV.d (D.int IntKind.i64 (upC c k v (8 : Nat))), AV.d (D.int IntKind.i64 (upC c k v (9 : Nat))), AV.d (D.int IntKind.i64 (upC c k v (10 : Nat))), AV.d (D.int IntKind.i64 (upC c k v (11 : Nat))), AV.d (D.int IntKind.i64 (upC c k v (12 : Nat))), AV.d (D.int IntKind.u32 dn), AV.d (D.int IntKind.i32 (0 : Int)), AV.d (D.int IntKind.u32 (0 : Int)), AV.d (D.sl ns)] = Ob.box [AV.d (D.int IntKind.i64 (upC c k v (0 : Nat))), AV.d (D.int IntKind.i64 (upC c k v (1 : Nat))), AV.d (D.int IntKind.i64 (upC c k v (2 : Nat))), AV.d (D.int IntKind.i64 (upC c k v (3 : Nat))), AV.d (D.int IntKind.i64 (upC c k v (4 : Nat))), AV.d (D.int IntKind.i64 (upC c k v (5 : Nat))), AV.d (D.int IntKind.i64 (upC c k v (6 : Nat))), AV.d (D.int IntKind.i64 (upC c k v (7 : Nat))), AV.d (D.int IntKind.i64 (upC c k v (8 : Nat))), AV.d (D.int IntKind.i64 (upC c k v (9 : Nat))), AV.d (D.int IntKind.i64 (upC c k v (10 : Nat))), AV.d (D.int IntKind.i64 (upC c k v (11 : Nat))), AV.d (D.int IntKind.i64 (upC c k v (12 : Nat))), AV.d (D.int IntKind.u32 dn), AV.d (D.int IntKind.i32 (0 : Int)), AV.d (D.int IntKind.u32 (0 : Int)), AV.d (D.sl ns)]) ∧ (True))))))) (h := {H := [(1, [(1, .call [0] (.d (.int .i64 (c k))) [tB c dn 0 ns])]), (2, [(3, .val (.bool false))]), (4, [(2, .call [0] (.d (.int .i64 v)) [tB (upC c k v) dn 0 ns])])]}) (subs := []) (ws := []) (ρ := []) (by kernel_rfl) ?_
  have hk' : (0 : Int) ≤ (k : Int) ∧ (k : Int) < ((13 : Nat) : Int) := by omega
  simp only [Int.toNat_natCast, Nat.mul_one, Nat.zero_add]
  repeat' (first | with_reducible exact True.intro | with_reducible refine And.intro ?_ ?_ | with_reducible refine condP_dec (fun _ => ?_) (fun _ => ?_) | with_reducible refine condP_eq (fun _ => ?_) (fun _ => ?_) | with_reducible refine condP_ne (fun _ => ?_) (fun _ => ?_) | with_reducible refine condP_not (condP_dec (fun _ => ?_) (fun _ => ?_)) | with_reducible refine condP_not (condP_eq (fun _ => ?_) (fun _ => ?_)) | with_reducible refine condP_not (condP_intro (fun _ => ?_) (fun _ => ?_)) | with_reducible refine condP_intro (fun _ => ?_) (fun _ => ?_))
  all_goals first | exact k1 | exact k2 | exact hk' | rfl | omega | (refine congrArg D.bool ?_; rw [hd]; done) | skip

theorem more23 (c : Nat → Int) (hb : Bd c) (q : Bool) {k : Nat} (hk : k < 13) (n : Int) (hn : 0 ≤ n) : FnOK Try.prog 23 [.ptr 0 0, .d (.int .i64 k), .d (.int .i64 n)] [tQ c q] (.tup []) [tQ (upC c k (addC (c k) n)) q] := by
  have h := hb k
  have e : IntKind.i64.wrap (4611686018427387904 - c k) = 4611686018427387904 - c k := by rw [IntKind.wrap_i64]; unfold great at h; omega
  unfold addC tQ
  by_cases hg : n > great - c k
  · rw [if_pos hg]
    exact more23g c _ _ k hk n _ (loadQ c _ _ hk) (by rw [e]; exact decide_eq_true hg) (storeQ c _ _ hk _)
  · rw [if_neg hg]
    exact more23s c _ _ k hk n _ (loadQ c _ _ hk) (by rw [e]; exact decide_eq_false hg) (addQ c _ _ hk n _ (by rw [IntKind.wrap_i64]; unfold great at *; omega))
/-! ### Finding a name -/
def I25 (l : List (List UInt8)) (x : List UInt8) (j : Nat) : St := ⟨[(0, .d (.sl (l.map .str))), (1, .d (.str x)), (7, .d (.int .i64 l.length)), (8, .d (.int .i64 j))], []⟩
set_option maxRecDepth 100000 in
set_option maxHeartbeats 1000000 in
theorem r25 (l : List (List UInt8)) (hl : l.length < 1000000) (x y : List UInt8) (j : Nat) (hn : l[j]? = some y) (hq : (x == y) = false) : Runs Try.prog 0 (loopN Try.prog 25 0) (St.as (I25 l x j) 19) (.normal) (St.as (I25 l x (j+1)) 19) := by
  refine round_wp (p := condP (decide ((↑j : Int) < (↑l.length : Int))) (((0 : Int) ≤ (↑j : Int)) ∧ (((List.map D.str l)[(↑j : Int).toNat]? = some (D.str y)) ∧ ((D.bool (x == y) = D.bool false) ∧ ((AV.d (D.sl (List.map D.str l)) = AV.d (D.sl (List.map D.str l))) ∧ ((AV.d (D.str x) = AV.d (D.str x)) ∧ ((AV.d (D.int IntKind.i64 (↑l.length : Int)) = AV.d (D.int IntKind.i64 (↑l.length : Int))) ∧ ((AV.d (D.int IntKind.i64 (IntKind.i64.wrap ((↑j : Int) + (1 : Int)))) = AV.d (D.int IntKind.i64 (↑(j + (1 : Nat)) : Int))) ∧ (True)))))))) (False)) (h := {els := [(12, .el (.str y))], H := [(4, [(5, .val (.bool false))])]}) (subs := []) (ws := []) (ρ := []) (by kernel_rfl) ?_
  have hj := get_lt hn
  have hi := inc_i64 (j := j) (by omega)
  try simp only [hi]
  refine condP_t (by rw [decide_eq_true_eq]; omega) ?_
  repeat' (first | with_reducible exact True.intro | with_reducible refine And.intro ?_ ?_ | with_reducible refine condP_dec (fun _ => ?_) (fun _ => ?_) | with_reducible refine condP_eq (fun _ => ?_) (fun _ => ?_) | with_reducible refine condP_ne (fun _ => ?_) (fun _ => ?_) | with_reducible refine condP_not (condP_dec (fun _ => ?_) (fun _ => ?_)) | with_reducible refine condP_not (condP_eq (fun _ => ?_) (fun _ => ?_)) | with_reducible refine condP_not (condP_intro (fun _ => ?_) (fun _ => ?_)) | with_reducible refine condP_intro (fun _ => ?_) (fun _ => ?_))
  all_goals first | exact el_map hn rfl | rfl | omega | exact congrArg D.bool hq | skip

set_option maxRecDepth 100000 in
set_option maxHeartbeats 1000000 in
theorem e25 (l : List (List UInt8)) (hl : l.length < 1000000) (x y : List UInt8) (j : Nat) (hn : l[j]? = some y) (hq : (x == y) = true) : Runs Try.prog 0 (loopN Try.prog 25 0) (St.as (I25 l x j) 19) (.ret) (St.as (⟨[(4, .d (.int .i64 j))], []⟩) 19) := by
  refine round_wp (p := condP (decide ((↑j : Int) < (↑l.length : Int))) (((0 : Int) ≤ (↑j : Int)) ∧ (((List.map D.str l)[(↑j : Int).toNat]? = some (D.str y)) ∧ ((D.bool (x == y) = D.bool true) ∧ ((AV.d (D.int IntKind.i64 (↑j : Int)) = AV.d (D.int IntKind.i64 (↑j : Int))) ∧ (True))))) (False)) (h := {els := [(12, .el (.str y))], H := [(4, [(5, .val (.bool true))])]}) (subs := []) (ws := []) (ρ := []) (by kernel_rfl) ?_
  have hj := get_lt hn
  have hi := inc_i64 (j := j) (by omega)
  try simp only [hi]
  refine condP_t (by rw [decide_eq_true_eq]; omega) ?_
  repeat' (first | with_reducible exact True.intro | with_reducible refine And.intro ?_ ?_ | with_reducible refine condP_dec (fun _ => ?_) (fun _ => ?_) | with_reducible refine condP_eq (fun _ => ?_) (fun _ => ?_) | with_reducible refine condP_ne (fun _ => ?_) (fun _ => ?_) | with_reducible refine condP_not (condP_dec (fun _ => ?_) (fun _ => ?_)) | with_reducible refine condP_not (condP_eq (fun _ => ?_) (fun _ => ?_)) | with_reducible refine condP_not (condP_intro (fun _ => ?_) (fun _ => ?_)) | with_reducible refine condP_intro (fun _ => ?_) (fun _ => ?_))
  all_goals first | exact el_map hn rfl | rfl | omega | exact congrArg D.bool hq | skip

set_option maxRecDepth 100000 in
set_option maxHeartbeats 1000000 in
theorem q25 (l : List (List UInt8)) (x : List UInt8) : Runs Try.prog 0 (loopN Try.prog 25 0) (St.as (I25 l x l.length) 19) (.exit 0) (St.as (I25 l x l.length) 19) := by
  refine round_wp (p := condP (decide ((↑l.length : Int) < (↑l.length : Int))) (False) ((AV.d (D.sl (List.map D.str l)) = AV.d (D.sl (List.map D.str l))) ∧ ((AV.d (D.str x) = AV.d (D.str x)) ∧ ((AV.d (D.int IntKind.i64 (↑l.length : Int)) = AV.d (D.int IntKind.i64 (↑l.length : Int))) ∧ ((AV.d (D.int IntKind.i64 (↑l.length : Int)) = AV.d (D.int IntKind.i64 (↑l.length : Int))) ∧ (True)))))) (h := {}) (subs := []) (ws := []) (ρ := []) (by kernel_rfl) ?_
  repeat' (first | with_reducible exact True.intro | with_reducible refine And.intro ?_ ?_ | with_reducible refine condP_dec (fun _ => ?_) (fun _ => ?_) | with_reducible refine condP_eq (fun _ => ?_) (fun _ => ?_) | with_reducible refine condP_ne (fun _ => ?_) (fun _ => ?_) | with_reducible refine condP_not (condP_dec (fun _ => ?_) (fun _ => ?_)) | with_reducible refine condP_not (condP_eq (fun _ => ?_) (fun _ => ?_)) | with_reducible refine condP_not (condP_intro (fun _ => ?_) (fun _ => ?_)) | with_reducible refine condP_intro (fun _ => ?_) (fun _ => ?_))
  all_goals first | rfl | omega

set_option maxRecDepth 100000 in
set_option maxHeartbeats 1000000 in
theorem index25n (l : List (List UInt8)) (x : List UInt8) (hL : Loops Try.prog 0 (loopN Try.prog 25 0) ((I25 l x 0).as 19) (.exit 0) ((I25 l x l.length).as 19)) : FnOK Try.prog 25 ([.d (.sl (l.map .str)), .d (.str x)]) ([]) (.d (.int .i64 (-1))) ([]) := by
  refine fnOK_wp (p := (AV.d (D.sl (List.map D.str l)) = AV.d (D.sl (List.map D.str l))) ∧ ((AV.d (D.str x) = AV.d (D.str x)) ∧ ((AV.d (D.int IntKind.i64 (↑(List.map D.str l).length : Int)) = AV.d (D.int IntKind.i64 (↑l.length : Int))) ∧ ((AV.d (D.int IntKind.i64 (0 : Int)) = AV.d (D.int IntKind.i64 (0 : Int))) ∧ ((LoopsS Try.prog (0 : Nat) (loopN Try.prog (25 : Nat) (0 : Nat)) (I25 l x (0 : Nat)) (Exit.exit (0 : Nat)) (I25 l x l.length) (19 : Nat)) ∧ ((AV.d (D.int IntKind.i64 (-1 : Int)) = AV.d (D.int IntKind.i64 (-1 : Int))) ∧ (True))))))) (h := {}) (subs := [⟨[], [], I25 l x 0, .exit 0, I25 l x l.length⟩]) (ws := []) (ρ := []) (by kernel_rfl) ?_
  simp only [List.length_map]
  repeat' (first | with_reducible exact True.intro | with_reducible refine And.intro ?_ ?_ | with_reducible refine condP_dec (fun _ => ?_) (fun _ => ?_) | with_reducible refine condP_eq (fun _ => ?_) (fun _ => ?_) | with_reducible refine condP_ne (fun _ => ?_) (fun _ => ?_) | with_reducible refine condP_not (condP_dec (fun _ => ?_) (fun _ => ?_)) | with_reducible refine condP_not (condP_eq (fun _ => ?_) (fun _ => ?_)) | with_reducible refine condP_not (condP_intro (fun _ => ?_) (fun _ => ?_)) | with_reducible refine condP_intro (fun _ => ?_) (fun _ => ?_))
  all_goals first | exact hL | rfl | skip

set_option maxRecDepth 100000 in
set_option maxHeartbeats 1000000 in
theorem index25y (l : List (List UInt8)) (x : List UInt8) (j : Nat) (hL : Loops Try.prog 0 (loopN Try.prog 25 0) ((I25 l x 0).as 19) .ret ((⟨[(4, .d (.int .i64 j))], []⟩ : St).as 19)) : FnOK Try.prog 25 ([.d (.sl (l.map .str)), .d (.str x)]) ([]) (.d (.int .i64 j)) ([]) := by
  refine fnOK_wp (p := (AV.d (D.sl (List.map D.str l)) = AV.d (D.sl (List.map D.str l))) ∧ ((AV.d (D.str x) = AV.d (D.str x)) ∧ ((AV.d (D.int IntKind.i64 (↑(List.map D.str l).length : Int)) = AV.d (D.int IntKind.i64 (↑l.length : Int))) ∧ ((AV.d (D.int IntKind.i64 (0 : Int)) = AV.d (D.int IntKind.i64 (0 : Int))) ∧ ((LoopsS Try.prog (0 : Nat) (loopN Try.prog (25 : Nat) (0 : Nat)) (I25 l x (0 : Nat)) Exit.ret (St.mk [((4 : Nat), AV.d (D.int IntKind.i64 (↑j : Int)))] []) (19 : Nat)) ∧ ((AV.d (D.int IntKind.i64 (↑j : Int)) = AV.d (D.int IntKind.i64 (↑j : Int))) ∧ (True))))))) (h := {}) (subs := [⟨[], [], I25 l x 0, .ret, ⟨[(4, .d (.int .i64 j))], []⟩⟩]) (ws := []) (ρ := []) (by kernel_rfl) ?_
  simp only [List.length_map]
  repeat' (first | with_reducible exact True.intro | with_reducible refine And.intro ?_ ?_ | with_reducible refine condP_dec (fun _ => ?_) (fun _ => ?_) | with_reducible refine condP_eq (fun _ => ?_) (fun _ => ?_) | with_reducible refine condP_ne (fun _ => ?_) (fun _ => ?_) | with_reducible refine condP_not (condP_dec (fun _ => ?_) (fun _ => ?_)) | with_reducible refine condP_not (condP_eq (fun _ => ?_) (fun _ => ?_)) | with_reducible refine condP_not (condP_intro (fun _ => ?_) (fun _ => ?_)) | with_reducible refine condP_intro (fun _ => ?_) (fun _ => ?_))
  all_goals first | exact hL | rfl | skip

/-- The place of a name; -1: there is no such count. -/
def plc (x : List UInt8) : Option Nat := nmS.findIdx? (fun y => x == y)
def plI (x : List UInt8) : Int := match plc x with | some k => k | none => -1
theorem plc_cases (x : List UInt8) : (plc x = none ∧ ∀ (j : Nat) (y : List UInt8), nmS[j]? = some y → (x == y) = false) ∨ ∃ k : Nat, k < 13 ∧ plc x = some k ∧ nmS[k]? = some x ∧ ∀ (j : Nat) (y : List UInt8), j < k → nmS[j]? = some y → (x == y) = false := by
  cases h : plc x with
  | none =>
    refine .inl ⟨rfl, fun j y hj => ?_⟩
    unfold plc at h
    rw [List.findIdx?_eq_none_iff] at h
    exact h y (List.mem_of_getElem? hj)
  | some k =>
    unfold plc at h
    rw [List.findIdx?_eq_some_iff_getElem] at h
    obtain ⟨h1, h2, h3⟩ := h
    have h4 : x = nmS[k] := by simpa using h2
    refine .inr ⟨k, h1, rfl, by rw [List.getElem?_eq_getElem h1, ← h4], fun j y hj hy => ?_⟩
    have h5 := h3 j hj
    have h6 := (List.getElem?_eq_some_iff.1 hy).2
    rw [h6] at h5
    simpa using h5
theorem index25 (x : List UInt8) : FnOK Try.prog 25 [.d (.sl nmD), .d (.str x)] [] (.d (.int .i64 (plI x))) [] := by
  have hl : nmS.length < 1000000 := by decide
  unfold plI
  rcases plc_cases x with ⟨h1, h2⟩ | ⟨k, hk, h1, h2, h3⟩
  · rw [h1]
    exact index25n nmS x (loops_n (I := fun j => (I25 nmS x j).as 19) (by simp) nmS.length 0 (by omega) (fun j _ hj => r25 nmS hl x _ j (get_of hj) (h2 j _ (get_of hj))) (q25 nmS x))
  · rw [h1]
    have hm := get_lt h2
    exact index25y nmS x k (loops_n (I := fun j => (I25 nmS x j).as 19) (by simp) k 0 (by omega) (fun j _ hj => r25 nmS hl x _ j (get_of (by omega)) (h3 j _ hj (get_of (by omega)))) (e25 nmS hl x x k h2 (by simp)))
end Go.Proofs.Ythedplgfpfajdaa
