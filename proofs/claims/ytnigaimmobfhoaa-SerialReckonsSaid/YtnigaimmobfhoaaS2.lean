/-
laws 04: the latest of some numbers; what every right program reckons; the laws of sums. No condition but that numbers fit their kinds.
-/
import Derived.Test.YtnigaimmobfhoaaS1
set_option linter.unusedSimpArgs false
set_option linter.unusedVariables false
namespace Go.Proofs.Ytnigaimmobfhoaa
open Sx Go.RowKit

def uD (l : List Int) : D := .sl (l.map (.int .u32))
def best (fr : Int) (l : List Int) (j : Nat) : Int := (l.take j).foldl (lat1 fr) fr
def prevL (fr : Int) (l : List Int) (j : Nat) : Int := (l.take j).foldl (fun _ x => x) fr
def U (x : Int) : Prop := 0 ≤ x ∧ x < 4294967296
theorem best_U {fr : Int} {l : List Int} (hf : U fr) (hl : ∀ x ∈ l, U x) (j : Nat) : U (best fr l j) := by
  have key : ∀ (m : List Int) (b : Int), U b → (∀ x ∈ m, U x) → U (m.foldl (lat1 fr) b) := by
    intro m
    induction m with
    | nil => intro b hb _; exact hb
    | cons y r ih =>
      intro b hb hm
      refine ih _ ?_ fun x hx => hm x (by simp [hx])
      unfold lat1
      split
      · exact hm y (by simp)
      · exact hb
  exact key _ _ hf fun x hx => hl x (List.mem_of_mem_take hx)
theorem best_end (fr : Int) (l : List Int) : best fr l l.length = sLatest l fr := by simp [best, sLatest]
theorem best_succ {fr : Int} {l : List Int} {j : Nat} {x : Int} (hx : l[j]? = some x) : best fr l (j + 1) = if sDiff x fr > sDiff (best fr l j) fr then x else best fr l j := foldl_snoc _ _ _ _ _ hx
theorem prev_succ {fr : Int} {l : List Int} {j : Nat} {x : Int} (hx : l[j]? = some x) : prevL fr l (j + 1) = x := foldl_snoc _ _ _ _ _ hx

def I20 (l : List Int) (fr : Int) (j : Nat) : St := ⟨[(1, .d (.int .u32 fr)), (5, .ptr 1 0), (11, .d (.sl (l.map (.int .u32)))), (12, .d (.int .i64 l.length)), (13, .d (.int .i64 j))], [(1, .box [.d (.int .u32 (best fr l j)), .d (.int .u32 (prevL fr l j))])]⟩
def I21 (l : List Int) (fr : Int) (j : Nat) : St := ⟨[(0, .d (.sl (l.map (.int .u32)))), (1, .d (.int .u32 fr)), (5, .d (.int .u32 (best fr l j))), (6, .d (.int .i64 j))], []⟩
set_option maxRecDepth 100000 in
set_option maxHeartbeats 1000000 in
theorem r20 (l : List Int) (fr : Int) (hf : U fr) (hl : ∀ x ∈ l, U x) (hn : l.length < 4611686018427387904) (j : Nat) (x : Int) (hx : l[j]? = some x) : Runs Try.prog 0 (loopN Try.prog 20 0) (St.as (I20 l fr j) 33) (.normal) (St.as (I20 l fr (j+1)) 33) := by
  refine round_wp (p := condP (decide ((↑j : Int) < (↑l.length : Int))) (((0 : Int) ≤ (↑j : Int)) ∧ (((List.map (D.int IntKind.u32) l)[(↑j : Int).toNat]? = some (D.int IntKind.u32 x)) ∧ (((0 : Int) ≤ (1 : Int) ∧ (1 : Int) < (↑(2 : Nat) : Int)) ∧ (((0 : Int) ≤ (1 : Int) ∧ (1 : Int) < (↑(2 : Nat) : Int)) ∧ ((FnOK Try.prog (9 : Nat) [AV.d (D.int IntKind.u32 x), AV.d (D.int IntKind.u32 fr)] [] (AV.d (D.int IntKind.i64 (sDiff x fr))) []) ∧ (((0 : Int) ≤ (0 : Int) ∧ (0 : Int) < (↑(2 : Nat) : Int)) ∧ ((FnOK Try.prog (9 : Nat) [AV.d (D.int IntKind.u32 (best fr l j)), AV.d (D.int IntKind.u32 fr)] [] (AV.d (D.int IntKind.i64 (sDiff (best fr l j) fr))) []) ∧ (condP (decide (sDiff x fr > sDiff (best fr l j) fr)) (((0 : Int) ≤ (0 : Int) ∧ (0 : Int) < (↑(2 : Nat) : Int)) ∧ ((AV.d (D.int IntKind.u32 fr) = AV.d (D.int IntKind.u32 fr)) ∧ ((AV.ptr (1 : Nat) (0 : Nat) = AV.ptr (1 : Nat) (0 : Nat)) ∧ ((AV.d (D.sl (List.map (D.int IntKind.u32) l)) = AV.d (D.sl (List.map (D.int IntKind.u32) l))) ∧ ((AV.d (D.int IntKind.i64 (↑l.length : Int)) = AV.d (D.int IntKind.i64 (↑l.length : Int))) ∧ ((AV.d (D.int IntKind.i64 (IntKind.i64.wrap ((↑j : Int) + (1 : Int)))) = AV.d (D.int IntKind.i64 (↑(j + (1 : Nat)) : Int))) ∧ ((Ob.box [AV.d (D.int IntKind.u32 x), AV.d (D.int IntKind.u32 x)] = Ob.box [AV.d (D.int IntKind.u32 (best fr l (j + (1 : Nat)))), AV.d (D.int IntKind.u32 (prevL fr l (j + (1 : Nat))))]) ∧ (True)))))))) ((AV.d (D.int IntKind.u32 fr) = AV.d (D.int IntKind.u32 fr)) ∧ ((AV.ptr (1 : Nat) (0 : Nat) = AV.ptr (1 : Nat) (0 : Nat)) ∧ ((AV.d (D.sl (List.map (D.int IntKind.u32) l)) = AV.d (D.sl (List.map (D.int IntKind.u32) l))) ∧ ((AV.d (D.int IntKind.i64 (↑l.length : Int)) = AV.d (D.int IntKind.i64 (↑l.length : Int))) ∧ ((AV.d (D.int IntKind.i64 (IntKind.i64.wrap ((↑j : Int) + (1 : Int)))) = AV.d (D.int IntKind.i64 (↑(j + (1 : Nat)) : Int))) ∧ ((Ob.box [AV.d (D.int IntKind.u32 (best fr l j)), AV.d (D.int IntKind.u32 x)] = Ob.box [AV.d (D.int IntKind.u32 (best fr l (j + (1 : Nat)))), AV.d (D.int IntKind.u32 (prevL fr l (j + (1 : Nat))))]) ∧ (True))))))))))))))) (False)) (h := {G := G1, els := [(11, .el (.int .u32 x))]}) (subs := []) (ws := []) (ρ := []) (by kernel_rfl) ?_
  have hj : j < l.length := (List.getElem?_eq_some_iff.1 hx).1
  have hs := best_succ (fr := fr) hx
  have hp := prev_succ (fr := fr) hx
  repeat' (first | with_reducible exact True.intro | with_reducible refine And.intro ?_ ?_ | with_reducible refine condP_dec (fun _ => ?_) (fun _ => ?_) | with_reducible refine condP_eq (fun _ => ?_) (fun _ => ?_) | with_reducible refine condP_ne (fun _ => ?_) (fun _ => ?_) | with_reducible refine condP_not (condP_intro (fun _ => ?_) (fun _ => ?_)) | with_reducible refine condP_intro (fun _ => ?_) (fun _ => ?_))
  all_goals (try simp only [List.length_map, AV.d.injEq, D.int.injEq, D.bool.injEq, true_and, and_true, decide_eq_true_eq, decide_eq_false_iff_not, decide_eq_decide])
  all_goals (try simp only [List.length_map] at *)
  all_goals first | exact diff9 _ _ | exact el_map hx rfl | rfl | (all_goals (try simp only [IntKind.wrap_u32, IntKind.wrap_i32, IntKind.wrap_i64]); omega) | (rw [hp, hs, if_pos (by assumption)]; done) | (rw [hp, hs, if_neg (by assumption)]; done)

set_option maxRecDepth 100000 in
set_option maxHeartbeats 1000000 in
theorem q20 (l : List Int) (fr : Int) : Runs Try.prog 0 (loopN Try.prog 20 0) (St.as (I20 l fr l.length) 33) (.exit 0) (St.as (I20 l fr l.length) 33) := by
  refine round_wp (p := condP (decide ((↑l.length : Int) < (↑l.length : Int))) (False) ((AV.d (D.int IntKind.u32 fr) = AV.d (D.int IntKind.u32 fr)) ∧ ((AV.ptr (1 : Nat) (0 : Nat) = AV.ptr (1 : Nat) (0 : Nat)) ∧ ((AV.d (D.sl (List.map (D.int IntKind.u32) l)) = AV.d (D.sl (List.map (D.int IntKind.u32) l))) ∧ ((AV.d (D.int IntKind.i64 (↑l.length : Int)) = AV.d (D.int IntKind.i64 (↑l.length : Int))) ∧ ((AV.d (D.int IntKind.i64 (↑l.length : Int)) = AV.d (D.int IntKind.i64 (↑l.length : Int))) ∧ ((Ob.box [AV.d (D.int IntKind.u32 (best fr l l.length)), AV.d (D.int IntKind.u32 (prevL fr l l.length))] = Ob.box [AV.d (D.int IntKind.u32 (best fr l l.length)), AV.d (D.int IntKind.u32 (prevL fr l l.length))]) ∧ (True)))))))) (h := {G := G1}) (subs := []) (ws := []) (ρ := []) (by kernel_rfl) ?_
  repeat' (first | with_reducible exact True.intro | with_reducible refine And.intro ?_ ?_ | with_reducible refine condP_dec (fun _ => ?_) (fun _ => ?_) | with_reducible refine condP_eq (fun _ => ?_) (fun _ => ?_) | with_reducible refine condP_ne (fun _ => ?_) (fun _ => ?_) | with_reducible refine condP_not (condP_intro (fun _ => ?_) (fun _ => ?_)) | with_reducible refine condP_intro (fun _ => ?_) (fun _ => ?_))
  all_goals (try simp only [List.length_map, AV.d.injEq, D.int.injEq, D.bool.injEq, true_and, and_true, decide_eq_true_eq, decide_eq_false_iff_not, decide_eq_decide])
  all_goals (try simp only [List.length_map] at *)
  all_goals first | rfl | omega

theorem l20 (l : List Int) (fr : Int) (hf : U fr) (hl : ∀ x ∈ l, U x) (hn : l.length < 4611686018427387904) : Loops Try.prog 0 (loopN Try.prog 20 0) ((I20 l fr 0).as 33) (.exit 0) ((I20 l fr l.length).as 33) :=
  loops_n (I := fun j => (I20 l fr j).as 33) (by simp) l.length 0 (by omega) (fun j _ hj => r20 l fr hf hl hn j l[j] (by simp [hj])) (q20 l fr)
set_option maxRecDepth 100000 in
set_option maxHeartbeats 1000000 in
theorem latest20 (l : List Int) (fr : Int) (hf : U fr) (hl : ∀ x ∈ l, U x) (hn : l.length < 4611686018427387904) : FnOK Try.prog 20 ([.d (uD l), .d (.int .u32 fr)]) ([]) (.d (.int .u32 (sLatest l fr))) ([]) := by
  refine fnOK_wp (p := (AV.d (D.int IntKind.u32 fr) = AV.d (D.int IntKind.u32 fr)) ∧ ((AV.ptr (1040 : Nat) (0 : Nat) = AV.ptr (1040 : Nat) (0 : Nat)) ∧ ((AV.d (D.sl (List.map (D.int IntKind.u32) l)) = AV.d (D.sl (List.map (D.int IntKind.u32) l))) ∧ ((AV.d (D.int IntKind.i64 (↑(List.map (D.int IntKind.u32) l).length : Int)) = AV.d (D.int IntKind.i64 (↑l.length : Int))) ∧ ((AV.d (D.int IntKind.i64 (0 : Int)) = AV.d (D.int IntKind.i64 (Int.ofNat (0 : Nat)))) ∧ ((Ob.box [AV.d (D.int IntKind.u32 fr), AV.d (D.int IntKind.u32 fr)] = Ob.box [AV.d (D.int IntKind.u32 (best fr l (0 : Nat))), AV.d (D.int IntKind.u32 (prevL fr l (0 : Nat)))]) ∧ ((LoopsS Try.prog (0 : Nat) (loopN Try.prog (20 : Nat) (0 : Nat)) (I20 l fr (0 : Nat)) (Exit.exit (0 : Nat)) (I20 l fr l.length) (33 : Nat)) ∧ (((0 : Int) ≤ (0 : Int) ∧ (0 : Int) < (↑(2 : Nat) : Int)) ∧ ((AV.d (D.int IntKind.u32 (best fr l l.length)) = AV.d (D.int IntKind.u32 (sLatest l fr))) ∧ (True)))))))))) (h := {G := G1}) (subs := [⟨[], [], I20 l fr 0, .exit 0, I20 l fr l.length⟩]) (ws := []) (ρ := []) (by kernel_rfl) ?_
  have he := best_end fr l
  repeat' (first | with_reducible exact True.intro | with_reducible refine And.intro ?_ ?_ | with_reducible refine condP_dec (fun _ => ?_) (fun _ => ?_) | with_reducible refine condP_eq (fun _ => ?_) (fun _ => ?_) | with_reducible refine condP_ne (fun _ => ?_) (fun _ => ?_) | with_reducible refine condP_not (condP_intro (fun _ => ?_) (fun _ => ?_)) | with_reducible refine condP_intro (fun _ => ?_) (fun _ => ?_))
  all_goals (try simp only [List.length_map, AV.d.injEq, D.int.injEq, D.bool.injEq, true_and, and_true, decide_eq_true_eq, decide_eq_false_iff_not, decide_eq_decide])
  all_goals (try simp only [List.length_map] at *)
  all_goals first | rfl | exact l20 l fr hf hl hn | (rw [he]) | omega

set_option maxRecDepth 100000 in
set_option maxHeartbeats 1000000 in
theorem r21 (l : List Int) (fr : Int) (hf : U fr) (hl : ∀ x ∈ l, U x) (hn : l.length < 4611686018427387904) (j : Nat) (x : Int) (hx : l[j]? = some x) : Runs Try.prog 0 (loopN Try.prog 21 0) (St.as (I21 l fr j) 29) (.normal) (St.as (I21 l fr (j+1)) 29) := by
  refine round_wp (p := condP (decide ((↑j : Int) < (↑(List.map (D.int IntKind.u32) l).length : Int))) (((0 : Int) ≤ (↑j : Int)) ∧ (((List.map (D.int IntKind.u32) l)[(↑j : Int).toNat]? = some (D.int IntKind.u32 x)) ∧ ((FnOK Try.prog (10 : Nat) [AV.d (D.int IntKind.u32 x), AV.d (D.int IntKind.u32 fr)] [] (AV.d (D.int IntKind.i64 (sDiff x fr))) []) ∧ ((FnOK Try.prog (10 : Nat) [AV.d (D.int IntKind.u32 (best fr l j)), AV.d (D.int IntKind.u32 fr)] [] (AV.d (D.int IntKind.i64 (sDiff (best fr l j) fr))) []) ∧ (condP (decide (sDiff x fr > sDiff (best fr l j) fr)) (((0 : Int) ≤ (↑j : Int)) ∧ (((List.map (D.int IntKind.u32) l)[(↑j : Int).toNat]? = some (D.int IntKind.u32 x)) ∧ ((AV.d (D.sl (List.map (D.int IntKind.u32) l)) = AV.d (D.sl (List.map (D.int IntKind.u32) l))) ∧ ((AV.d (D.int IntKind.u32 fr) = AV.d (D.int IntKind.u32 fr)) ∧ ((AV.d (D.int IntKind.u32 x) = AV.d (D.int IntKind.u32 (best fr l (j + (1 : Nat))))) ∧ ((AV.d (D.int IntKind.i64 (IntKind.i64.wrap ((↑j : Int) + (1 : Int)))) = AV.d (D.int IntKind.i64 (↑(j + (1 : Nat)) : Int))) ∧ (True))))))) ((AV.d (D.sl (List.map (D.int IntKind.u32) l)) = AV.d (D.sl (List.map (D.int IntKind.u32) l))) ∧ ((AV.d (D.int IntKind.u32 fr) = AV.d (D.int IntKind.u32 fr)) ∧ ((AV.d (D.int IntKind.u32 (best fr l j)) = AV.d (D.int IntKind.u32 (best fr l (j + (1 : Nat))))) ∧ ((AV.d (D.int IntKind.i64 (IntKind.i64.wrap ((↑j : Int) + (1 : Int)))) = AV.d (D.int IntKind.i64 (↑(j + (1 : Nat)) : Int))) ∧ (True)))))))))) (False)) (h := {G := G1, els := [(14, .el (.int .u32 x)), (24, .el (.int .u32 x))]}) (subs := []) (ws := []) (ρ := []) (by kernel_rfl) ?_
  have hj : j < l.length := (List.getElem?_eq_some_iff.1 hx).1
  have hs := best_succ (fr := fr) hx
  have hu : U x := hl x (List.mem_of_getElem? hx)
  have hb : U (best fr l j) := best_U hf hl j
  unfold U at hu hb hf
  repeat' (first | with_reducible exact True.intro | with_reducible refine And.intro ?_ ?_ | with_reducible refine condP_dec (fun _ => ?_) (fun _ => ?_) | with_reducible refine condP_eq (fun _ => ?_) (fun _ => ?_) | with_reducible refine condP_ne (fun _ => ?_) (fun _ => ?_) | with_reducible refine condP_not (condP_intro (fun _ => ?_) (fun _ => ?_)) | with_reducible refine condP_intro (fun _ => ?_) (fun _ => ?_))
  all_goals (try simp only [List.length_map, AV.d.injEq, D.int.injEq, D.bool.injEq, true_and, and_true, decide_eq_true_eq, decide_eq_false_iff_not, decide_eq_decide])
  all_goals (try simp only [List.length_map] at *)
  all_goals first | exact diff10 _ _ (by omega) (by omega) (by omega) (by omega) | exact el_map hx rfl | rfl | (all_goals (try simp only [IntKind.wrap_u32, IntKind.wrap_i32, IntKind.wrap_i64]); omega) | (rw [hs, if_pos (by assumption)]) | (rw [hs, if_neg (by assumption)])

set_option maxRecDepth 100000 in
set_option maxHeartbeats 1000000 in
theorem q21 (l : List Int) (fr : Int) : Runs Try.prog 0 (loopN Try.prog 21 0) (St.as (I21 l fr l.length) 29) (.exit 0) (St.as (I21 l fr l.length) 29) := by
  refine round_wp (p := condP (decide ((↑l.length : Int) < (↑(List.map (D.int IntKind.u32) l).length : Int))) (False) ((AV.d (D.sl (List.map (D.int IntKind.u32) l)) = AV.d (D.sl (List.map (D.int IntKind.u32) l))) ∧ ((AV.d (D.int IntKind.u32 fr) = AV.d (D.int IntKind.u32 fr)) ∧ ((AV.d (D.int IntKind.u32 (best fr l l.length)) = AV.d (D.int IntKind.u32 (best fr l l.length))) ∧ ((AV.d (D.int IntKind.i64 (↑l.length : Int)) = AV.d (D.int IntKind.i64 (↑l.length : Int))) ∧ (True)))))) (h := {G := G1}) (subs := []) (ws := []) (ρ := []) (by kernel_rfl) ?_
  repeat' (first | with_reducible exact True.intro | with_reducible refine And.intro ?_ ?_ | with_reducible refine condP_dec (fun _ => ?_) (fun _ => ?_) | with_reducible refine condP_eq (fun _ => ?_) (fun _ => ?_) | with_reducible refine condP_ne (fun _ => ?_) (fun _ => ?_) | with_reducible refine condP_not (condP_intro (fun _ => ?_) (fun _ => ?_)) | with_reducible refine condP_intro (fun _ => ?_) (fun _ => ?_))
  all_goals (try simp only [List.length_map, AV.d.injEq, D.int.injEq, D.bool.injEq, true_and, and_true, decide_eq_true_eq, decide_eq_false_iff_not, decide_eq_decide])
  all_goals (try simp only [List.length_map] at *)
  all_goals first | rfl | omega

theorem l21 (l : List Int) (fr : Int) (hf : U fr) (hl : ∀ x ∈ l, U x) (hn : l.length < 4611686018427387904) : Loops Try.prog 0 (loopN Try.prog 21 0) ((I21 l fr 0).as 29) (.exit 0) ((I21 l fr l.length).as 29) :=
  loops_n (I := fun j => (I21 l fr j).as 29) (by simp) l.length 0 (by omega) (fun j _ hj => r21 l fr hf hl hn j l[j] (by simp [hj])) (q21 l fr)
set_option maxRecDepth 100000 in
set_option maxHeartbeats 1000000 in
theorem latest21 (l : List Int) (fr : Int) (hf : U fr) (hl : ∀ x ∈ l, U x) (hn : l.length < 4611686018427387904) : FnOK Try.prog 21 ([.d (uD l), .d (.int .u32 fr)]) ([]) (.d (.int .u32 (sLatest l fr))) ([]) := by
  refine fnOK_wp (p := (AV.d (D.sl (List.map (D.int IntKind.u32) l)) = AV.d (D.sl (List.map (D.int IntKind.u32) l))) ∧ ((AV.d (D.int IntKind.u32 fr) = AV.d (D.int IntKind.u32 fr)) ∧ ((AV.d (D.int IntKind.u32 fr) = AV.d (D.int IntKind.u32 (best fr l (0 : Nat)))) ∧ ((AV.d (D.int IntKind.i64 (0 : Int)) = AV.d (D.int IntKind.i64 (Int.ofNat (0 : Nat)))) ∧ ((LoopsS Try.prog (0 : Nat) (loopN Try.prog (21 : Nat) (0 : Nat)) (I21 l fr (0 : Nat)) (Exit.exit (0 : Nat)) (I21 l fr l.length) (29 : Nat)) ∧ ((AV.d (D.int IntKind.u32 (best fr l l.length)) = AV.d (D.int IntKind.u32 (sLatest l fr))) ∧ (True))))))) (h := {G := G1}) (subs := [⟨[], [], I21 l fr 0, .exit 0, I21 l fr l.length⟩]) (ws := []) (ρ := []) (by kernel_rfl) ?_
  have he := best_end fr l
  repeat' (first | with_reducible exact True.intro | with_reducible refine And.intro ?_ ?_ | with_reducible refine condP_dec (fun _ => ?_) (fun _ => ?_) | with_reducible refine condP_eq (fun _ => ?_) (fun _ => ?_) | with_reducible refine condP_ne (fun _ => ?_) (fun _ => ?_) | with_reducible refine condP_not (condP_intro (fun _ => ?_) (fun _ => ?_)) | with_reducible refine condP_intro (fun _ => ?_) (fun _ => ?_))
  all_goals (try simp only [List.length_map, AV.d.injEq, D.int.injEq, D.bool.injEq, true_and, and_true, decide_eq_true_eq, decide_eq_false_iff_not, decide_eq_decide])
  all_goals (try simp only [List.length_map] at *)
  all_goals first | rfl | exact l21 l fr hf hl hn | (rw [he]) | omega

def intOf1 : D → Int
  | .int _ n => n
  | _ => 0
def G2 : List (Nat × (List D → Option (AV × List Ob))) := G1 ++ [
  (8, fun | [.int _ a, .int _ n] => some (.d (.int .u32 (sAdd a n)), []) | _ => none),
  (11, fun | [.int _ a, .int _ b] => some (.d (.bool (sLess a b)), []) | _ => none),
  (12, fun | [.int _ a, .int _ b] => some (.d (.bool (sLess a b)), []) | _ => none),
  (13, fun | [.int _ a, .int _ b, .int _ n] => some (.d (.bool (sIn a b n)), []) | _ => none),
  (14, fun | [.int _ a, .int _ b, .int _ n] => some (.d (.bool (sIn a b n)), []) | _ => none),
  (16, fun | [.int _ n, .int _ a] => some (.d (.int .i64 (sLong n a)), []) | _ => none),
  (17, fun | [.int _ n, .int _ a] => some (.d (.int .i64 (sLong n a)), []) | _ => none),
  (20, fun | [.sl l, .int _ a] => some (.d (.int .u32 (sLatest (l.map intOf1) a)), []) | _ => none),
  (15, fun _ => some (.d (.bool true), []))]
set_option maxRecDepth 100000 in
set_option maxHeartbeats 1000000 in
theorem awake15  : FnOK Try.prog 15 ([]) ([]) (.d (.bool true)) ([]) := by
  refine fnOK_wp (p := (FnOK Try.prog (7 : Nat) [AV.d (D.int IntKind.u32 (4294967295 : Int)), AV.d (D.int IntKind.i64 (3 : Int))] [] (AV.d (D.int IntKind.u32 (Int.ofNat ((nat_lit 4294967295 + nat_lit 3) % Int.natAbs (4294967296 : Int))))) []) ∧ ((D.bool true = D.bool true) ∧ ((FnOK Try.prog (7 : Nat) [AV.d (D.int IntKind.u32 (1 : Int)), AV.d (D.int IntKind.i64 (-2 : Int))] [] (AV.d (D.int IntKind.u32 (Int.ofNat (Int.natAbs (4294967296 : Int) - (nat_lit 0 % Int.natAbs (4294967296 : Int)).succ)))) []) ∧ ((D.bool true = D.bool true) ∧ ((FnOK Try.prog (9 : Nat) [AV.d (D.int IntKind.u32 (2 : Int)), AV.d (D.int IntKind.u32 (4294967295 : Int))] [] (AV.d (D.int IntKind.i64 (Int.ofNat (Int.natAbs (4294967296 : Int) - (nat_lit 2147483644 % Int.natAbs (4294967296 : Int)).succ - Nat.succ (nat_lit 2147483647))))) []) ∧ ((D.bool true = D.bool true) ∧ ((FnOK Try.prog (9 : Nat) [AV.d (D.int IntKind.u32 (2147483648 : Int)), AV.d (D.int IntKind.u32 (0 : Int))] [] (AV.d (D.int IntKind.i64 (-2147483648 : Int))) []) ∧ ((D.bool true = D.bool true) ∧ ((FnOK Try.prog (11 : Nat) [AV.d (D.int IntKind.u32 (4294967295 : Int)), AV.d (D.int IntKind.u32 (2 : Int))] [] (AV.d (D.bool true)) []) ∧ ((D.bool true = D.bool true) ∧ ((FnOK Try.prog (11 : Nat) [AV.d (D.int IntKind.u32 (2 : Int)), AV.d (D.int IntKind.u32 (2 : Int))] [] (AV.d (D.bool false)) []) ∧ ((D.bool true = D.bool true) ∧ ((FnOK Try.prog (16 : Nat) [AV.d (D.int IntKind.i64 (4294967301 : Int)), AV.d (D.int IntKind.u32 (4294967295 : Int))] [] (AV.d (D.int IntKind.i64 (Int.ofNat (nat_lit 4294967301 - Nat.succ (nat_lit 5))))) []) ∧ ((D.bool true = D.bool true) ∧ ((FnOK Try.prog (16 : Nat) [AV.d (D.int IntKind.i64 (7 : Int)), AV.d (D.int IntKind.u32 (4294967295 : Int))] [] (AV.d (D.int IntKind.i64 (Int.ofNat (nat_lit 4294967296 - Nat.succ (nat_lit 0))))) []) ∧ ((D.bool true = D.bool true) ∧ ((FnOK Try.prog (18 : Nat) [AV.d (D.int IntKind.i64 (-1 : Int))] [] (AV.d (D.int IntKind.u32 (Int.ofNat (Int.natAbs (4294967296 : Int) - (nat_lit 0 % Int.natAbs (4294967296 : Int)).succ)))) []) ∧ ((D.bool true = D.bool true) ∧ ((FnOK Try.prog (13 : Nat) [AV.d (D.int IntKind.u32 (1 : Int)), AV.d (D.int IntKind.u32 (4294967295 : Int)), AV.d (D.int IntKind.i64 (3 : Int))] [] (AV.d (D.bool true)) []) ∧ ((D.bool true = D.bool true) ∧ ((FnOK Try.prog (13 : Nat) [AV.d (D.int IntKind.u32 (2 : Int)), AV.d (D.int IntKind.u32 (4294967295 : Int)), AV.d (D.int IntKind.i64 (3 : Int))] [] (AV.d (D.bool false)) []) ∧ ((D.bool true = D.bool true) ∧ ((FnOK Try.prog (20 : Nat) [AV.d (D.sl [D.int IntKind.u32 (5 : Int), D.int IntKind.u32 (4294967287 : Int), D.int IntKind.u32 (9 : Int)]), AV.d (D.int IntKind.u32 (3 : Int))] [] (AV.d (D.int IntKind.u32 (9 : Int))) []) ∧ ((AV.d (D.bool true) = AV.d (D.bool true)) ∧ (True))))))))))))))))))))))))) (h := {G := G2}) (subs := []) (ws := []) (ρ := []) (by kernel_rfl) ?_
  repeat' (first | with_reducible exact True.intro | with_reducible refine And.intro ?_ ?_ | with_reducible refine condP_dec (fun _ => ?_) (fun _ => ?_) | with_reducible refine condP_eq (fun _ => ?_) (fun _ => ?_) | with_reducible refine condP_ne (fun _ => ?_) (fun _ => ?_) | with_reducible refine condP_not (condP_intro (fun _ => ?_) (fun _ => ?_)) | with_reducible refine condP_intro (fun _ => ?_) (fun _ => ?_))
  all_goals first | rfl | first | exact add7 _ _ | exact diff9 _ _ | exact less11 _ _ | exact short18 _ (by omega) (by omega) | exact in13 _ _ _ (by omega) (by omega) (by omega) (by omega) | exact long16 _ _ (by omega) (by omega) | exact add8 _ _ (by omega) (by omega) (by omega) (by omega) | exact diff10 _ _ (by omega) (by omega) (by omega) (by omega) | exact less12 _ _ (by omega) (by omega) (by omega) (by omega) | exact in14 _ _ _ (by omega) (by omega) (by omega) (by omega) | exact long17 _ _ (by omega) (by omega) | exact short19 _ (by omega) (by omega) | exact latest20 [5, 4294967287, 9] 3 (by unfold U; omega) (by simp [U]) (by decide)

set_option maxRecDepth 100000 in
set_option maxHeartbeats 1000000 in
theorem reckons3 (a b n : Int) (ha : U a) (hb : U b) (h0 : -9223372036854775808 ≤ n) (h1 : n < 9223372036854775808) : FnOK Try.prog 3 ([.d (.int .u32 a), .d (.int .u32 b), .d (.int .i64 n)]) ([]) (.d (.bool true)) ([]) := by
  refine fnOK_wp (p := (FnOK Try.prog (7 : Nat) [AV.d (D.int IntKind.u32 a), AV.d (D.int IntKind.i64 n)] [] (AV.d (D.int IntKind.u32 (sAdd a n))) []) ∧ ((FnOK Try.prog (8 : Nat) [AV.d (D.int IntKind.u32 a), AV.d (D.int IntKind.i64 n)] [] (AV.d (D.int IntKind.u32 (sAdd a n))) []) ∧ ((D.bool (sAdd a n == sAdd a n) = D.bool true) ∧ ((FnOK Try.prog (9 : Nat) [AV.d (D.int IntKind.u32 a), AV.d (D.int IntKind.u32 b)] [] (AV.d (D.int IntKind.i64 (sDiff a b))) []) ∧ ((FnOK Try.prog (10 : Nat) [AV.d (D.int IntKind.u32 a), AV.d (D.int IntKind.u32 b)] [] (AV.d (D.int IntKind.i64 (sDiff a b))) []) ∧ ((D.bool (sDiff a b == sDiff a b) = D.bool true) ∧ ((FnOK Try.prog (11 : Nat) [AV.d (D.int IntKind.u32 a), AV.d (D.int IntKind.u32 b)] [] (AV.d (D.bool (sLess a b))) []) ∧ ((FnOK Try.prog (12 : Nat) [AV.d (D.int IntKind.u32 a), AV.d (D.int IntKind.u32 b)] [] (AV.d (D.bool (sLess a b))) []) ∧ ((D.bool (sLess a b == sLess a b) = D.bool true) ∧ ((FnOK Try.prog (13 : Nat) [AV.d (D.int IntKind.u32 a), AV.d (D.int IntKind.u32 b), AV.d (D.int IntKind.i64 n)] [] (AV.d (D.bool (sIn a b n))) []) ∧ ((FnOK Try.prog (14 : Nat) [AV.d (D.int IntKind.u32 a), AV.d (D.int IntKind.u32 b), AV.d (D.int IntKind.i64 n)] [] (AV.d (D.bool (sIn a b n))) []) ∧ ((D.bool (sIn a b n == sIn a b n) = D.bool true) ∧ ((FnOK Try.prog (15 : Nat) [] [] (AV.d (D.bool true)) []) ∧ ((AV.d (D.bool true) = AV.d (D.bool true)) ∧ (True))))))))))))))) (h := {G := (15, fun _ => some (.d (.bool true), [])) :: G2, chain := true}) (subs := []) (ws := []) (ρ := []) (by kernel_rfl) ?_
  unfold U at ha hb
  repeat' (first | with_reducible exact True.intro | with_reducible refine And.intro ?_ ?_ | with_reducible refine condP_dec (fun _ => ?_) (fun _ => ?_) | with_reducible refine condP_eq (fun _ => ?_) (fun _ => ?_) | with_reducible refine condP_ne (fun _ => ?_) (fun _ => ?_) | with_reducible refine condP_not (condP_intro (fun _ => ?_) (fun _ => ?_)) | with_reducible refine condP_intro (fun _ => ?_) (fun _ => ?_))
  all_goals first | exact awake15 | rfl | (simp; done) | first | exact add7 _ _ | exact diff9 _ _ | exact less11 _ _ | exact short18 _ (by omega) (by omega) | exact in13 _ _ _ (by omega) (by omega) (by omega) (by omega) | exact long16 _ _ (by omega) (by omega) | exact add8 _ _ (by omega) (by omega) (by omega) (by omega) | exact diff10 _ _ (by omega) (by omega) (by omega) (by omega) | exact less12 _ _ (by omega) (by omega) (by omega) (by omega) | exact in14 _ _ _ (by omega) (by omega) (by omega) (by omega) | exact long17 _ _ (by omega) (by omega) | exact short19 _ (by omega) (by omega)

theorem serialReckons_ok (x0 : D) (s0 : ∃ ds, CK.hasL [.int .u32] ds ∧ (if false then x0 = .agg ds else ds = [x0])) (x1 : D) (s1 : ∃ ds, CK.hasL [.int .u32] ds ∧ (if false then x1 = .agg ds else ds = [x1])) (x2 : D) (s2 : ∃ ds, CK.hasL [.int .i64] ds ∧ (if false then x2 = .agg ds else ds = [x2])) :
    FnOK Try.prog 3 [.d x0, .d x1, .d x2] [] (.d (.bool true)) [] := by
  obtain ⟨a, rfl, a0, a1⟩ := has_u32 (ck1 s0)
  obtain ⟨b, rfl, b0, b1⟩ := has_u32 (ck1 s1)
  obtain ⟨n, rfl, n0, n1⟩ := has_i64 (ck1 s2)
  exact reckons3 a b n ⟨a0, a1⟩ ⟨b0, b1⟩ n0 n1
end Go.Proofs.Ytnigaimmobfhoaa
