/-
laws 06: the numbers. No condition beyond the statement's own.
-/
import Derived.Test.YtkfiojolgkfbcaaS17
set_option linter.unusedSimpArgs false
set_option linter.unusedVariables false
namespace Go.Proofs.Ytkfiojolgkfbcaa
open Sx Go.RowKit

def bD (l : List Bool) : List D := l.map D.bool
theorem bD_len (l : List Bool) : (bD l).length = l.length := List.length_map ..
theorem bD_get {l : List Bool} {k : Nat} {q : Bool} (h : l[k]? = some q) : (bD l)[k]? = some (.bool q) := by unfold bD; rw [List.getElem?_map, h]; rfl
theorem bD_set (l : List Bool) (k : Nat) (q : Bool) : (bD l).set k (.bool q) = bD (l.set k q) := by unfold bD; rw [List.map_set]
/-- From a on, n of them set. -/
def cmQ (q : Bool) (cm : List Bool) (a : Nat) : Nat → List Bool
  | 0 => cm
  | n + 1 => (cmQ q cm a n).set (a + n) q
theorem cmQ_len (q : Bool) (cm : List Bool) (a : Nat) : ∀ n, (cmQ q cm a n).length = cm.length
  | 0 => rfl
  | n + 1 => by unfold cmQ; rw [List.length_set, cmQ_len q cm a n]
theorem cmQ_get (q : Bool) (cm : List Bool) (a i : Nat) (hi : i < cm.length) : ∀ n, (cmQ q cm a n)[i]? = if a ≤ i ∧ i < a + n then some q else cm[i]?
  | 0 => by rw [if_neg (by omega)]; rfl
  | n + 1 => by
    unfold cmQ
    rw [List.getElem?_set, cmQ_get q cm a i hi n, cmQ_len]
    by_cases h : a + n = i
    · rw [if_pos h, if_pos (by omega), if_pos (by omega)]
    · rw [if_neg h]
      by_cases g : a ≤ i ∧ i < a + n
      · rw [if_pos g, if_pos (by omega)]
      · rw [if_neg g, if_neg (by omega)]
def I5 (l : List At) (cm : List Bool) (s : List Iv) (j : Nat) : St := ⟨[(0, .d (.sl (l.map atD))), (3, .d (.sl (s.map ivD))), (4, .rptr 0 1 0 0), (5, .d (.int .i64 j))], [(0, .row 1 (bD cm))]⟩
def N5 (l : List At) (cm : List Bool) (s : List Iv) (a : At) (j k : Nat) : St := ⟨[(0, .d (.sl (l.map atD))), (3, .d (.sl (s.map ivD))), (4, .rptr 0 1 0 0), (5, .d (.int .i64 j)), (6, .ptr 1 0), (7, .d (.int .i64 k))], [(0, .row 1 (bD cm)), (1, ivB (atI a))]⟩
set_option maxRecDepth 100000 in
set_option maxHeartbeats 1000000 in
theorem n5 (l : List At) (hl : l.length ≤ 40) (cm cm' : List Bool) (hc : cm.length = 512) (s : List Iv) (a : At) (ha : AtOk a) (j k : Nat) (hn : l[j]? = some a) (hk : (k : Int) < a.f + a.l) (q : Bool) (hq : cm[k]? = some q) (hs : cm.set k (!a.c) = cm') : Runs Try.prog 0 (loopN Try.prog 5 1) (St.as (N5 l cm s a j k) 130) (.normal) (St.as (N5 l cm' s a j (k+1)) 130) := by
  refine round_wp (p := condP (decide ((↑k : Int) < (atI a).snd)) (((0 : Int) ≤ (↑j : Int)) ∧ (((List.map atD l)[(↑j : Int).toNat]? = some (D.agg [D.bool a.c, D.int IntKind.u8 a.f, D.int IntKind.u8 a.l])) ∧ (((0 : Nat) = (0 : Nat)) ∧ (((0 : Nat) = (0 : Nat)) ∧ (((0 : Int) ≤ (↑k : Int) ∧ (↑k : Int) < (↑(512 : Nat) : Int)) ∧ (((↑k : Int) < (↑(bD cm).length : Int)) ∧ (((1 : Nat) = (1 : Nat)) ∧ (((bD cm)[(↑k : Int).toNat]? = some (D.bool q)) ∧ ((AV.d (D.sl (List.map atD l)) = AV.d (D.sl (List.map atD l))) ∧ ((AV.d (D.sl (List.map ivD s)) = AV.d (D.sl (List.map ivD s))) ∧ ((AV.rptr (0 : Nat) (1 : Nat) (0 : Nat) (0 : Nat) = AV.rptr (0 : Nat) (1 : Nat) (0 : Nat) (0 : Nat)) ∧ ((AV.d (D.int IntKind.i64 (↑j : Int)) = AV.d (D.int IntKind.i64 (↑j : Int))) ∧ ((AV.ptr (1 : Nat) (0 : Nat) = AV.ptr (1 : Nat) (0 : Nat)) ∧ ((AV.d (D.int IntKind.i64 (IntKind.i64.wrap ((↑k : Int) + (1 : Int)))) = AV.d (D.int IntKind.i64 (↑(k + (1 : Nat)) : Int))) ∧ ((Ob.row (1 : Nat) ((bD cm).set (↑k : Int).toNat (D.bool !a.c)) = Ob.row (1 : Nat) (bD cm')) ∧ ((Ob.box [AV.d (D.int IntKind.i64 (atI a).fst), AV.d (D.int IntKind.i64 (atI a).snd)] = Ob.box [AV.d (D.int IntKind.i64 (atI a).fst), AV.d (D.int IntKind.i64 (atI a).snd)]) ∧ (True))))))))))))))))) (False)) (h := {els := [(62, .el (atD a)), (65, .el (atD a)), (68, .el (.bool q))]}) (subs := []) (ws := []) (ρ := []) (by kernel_rfl) ?_
  have hj := get_lt hn
  have hi := inc_i64 (j := k) (by unfold AtOk at ha; omega)
  have hcl := bD_len cm
  have hq' := bD_get hq
  have hs' : (bD cm).set k (.bool (!a.c)) = bD cm' := by rw [bD_set, hs]
  have hk2 := get_lt hq
  simp only [hi, hcl, hc, Int.toNat_natCast]
  refine condP_t (decide_eq_true (show (k : Int) < (atI a).2 from hk)) ?_
  repeat' (first | with_reducible exact True.intro | with_reducible refine And.intro ?_ ?_ | with_reducible refine condP_dec (fun _ => ?_) (fun _ => ?_) | with_reducible refine condP_eq (fun _ => ?_) (fun _ => ?_) | with_reducible refine condP_ne (fun _ => ?_) (fun _ => ?_) | with_reducible refine condP_not (condP_dec (fun _ => ?_) (fun _ => ?_)) | with_reducible refine condP_not (condP_eq (fun _ => ?_) (fun _ => ?_)) | with_reducible refine condP_not (condP_intro (fun _ => ?_) (fun _ => ?_)) | with_reducible refine condP_intro (fun _ => ?_) (fun _ => ?_))
  all_goals first | exact hq' | exact hs' | exact congrArg (Ob.row 1) hs' | exact el_map hn rfl | rfl | omega | skip

set_option maxRecDepth 100000 in
set_option maxHeartbeats 1000000 in
theorem m5 (l : List At) (cm : List Bool) (s : List Iv) (a : At) (j k : Nat) (hk : (k : Int) = a.f + a.l) : Runs Try.prog 0 (loopN Try.prog 5 1) (St.as (N5 l cm s a j k) 130) (.exit 2) (St.as (N5 l cm s a j k) 130) := by
  refine round_wp (p := condP (decide ((↑k : Int) < (atI a).snd)) (False) ((AV.d (D.sl (List.map atD l)) = AV.d (D.sl (List.map atD l))) ∧ ((AV.d (D.sl (List.map ivD s)) = AV.d (D.sl (List.map ivD s))) ∧ ((AV.rptr (0 : Nat) (1 : Nat) (0 : Nat) (0 : Nat) = AV.rptr (0 : Nat) (1 : Nat) (0 : Nat) (0 : Nat)) ∧ ((AV.d (D.int IntKind.i64 (↑j : Int)) = AV.d (D.int IntKind.i64 (↑j : Int))) ∧ ((AV.ptr (1 : Nat) (0 : Nat) = AV.ptr (1 : Nat) (0 : Nat)) ∧ ((AV.d (D.int IntKind.i64 (↑k : Int)) = AV.d (D.int IntKind.i64 (↑k : Int))) ∧ ((Ob.row (1 : Nat) (bD cm) = Ob.row (1 : Nat) (bD cm)) ∧ ((Ob.box [AV.d (D.int IntKind.i64 (atI a).fst), AV.d (D.int IntKind.i64 (atI a).snd)] = Ob.box [AV.d (D.int IntKind.i64 (atI a).fst), AV.d (D.int IntKind.i64 (atI a).snd)]) ∧ (True)))))))))) (h := {}) (subs := []) (ws := []) (ρ := []) (by kernel_rfl) ?_
  have he : (atI a).2 = a.f + a.l := rfl
  repeat' (first | with_reducible exact True.intro | with_reducible refine And.intro ?_ ?_ | with_reducible refine condP_dec (fun _ => ?_) (fun _ => ?_) | with_reducible refine condP_eq (fun _ => ?_) (fun _ => ?_) | with_reducible refine condP_ne (fun _ => ?_) (fun _ => ?_) | with_reducible refine condP_not (condP_dec (fun _ => ?_) (fun _ => ?_)) | with_reducible refine condP_not (condP_eq (fun _ => ?_) (fun _ => ?_)) | with_reducible refine condP_not (condP_intro (fun _ => ?_) (fun _ => ?_)) | with_reducible refine condP_intro (fun _ => ?_) (fun _ => ?_))
  all_goals first | rfl | omega | skip

theorem ln5 (l : List At) (hl : l.length ≤ 40) (cm : List Bool) (hc : cm.length = 512) (s : List Iv) (a : At) (ha : AtOk a) (j : Nat) (hn : l[j]? = some a) (f n : Nat) (hf : a.f = f) (hm : a.l = n) :
    Loops Try.prog 0 (loopN Try.prog 5 1) ((N5 l cm s a j f).as 130) (.exit 2) ((N5 l (cmQ (!a.c) cm f n) s a j (f + n)).as 130) := by
  have hb := ha
  unfold AtOk at hb
  refine loops_n (I := fun i => (N5 l (cmQ (!a.c) cm f i) s a j (f + i)).as 130) (by simp) n 0 (by omega) (fun i _ hi => ?_) (m5 l _ s a j (f + n) (by omega))
  have hl2 := cmQ_len (!a.c) cm f i
  have hq := get_of (l := cmQ (!a.c) cm f i) (show f + i < (cmQ (!a.c) cm f i).length by omega)
  exact n5 l hl _ _ (by omega) s a ha j (f + i) hn (by omega) _ hq rfl
set_option maxRecDepth 100000 in
set_option maxHeartbeats 1000000 in
theorem r5c (l : List At) (hl : l.length ≤ 40) (cm cm' : List Bool) (s s' : List Iv) (a : At) (ha : AtOk a) (j k e : Nat) (hn : l[j]? = some a) (hf : a.f = k) (hq : a.c = true) (k1 : FnOK Try.prog 13 [.d (.sl (s.map ivD)), .d (ivD (atI a))] [] (.d (.sl (s'.map ivD))) []) (hL : Loops Try.prog 0 (loopN Try.prog 5 1) ((N5 l cm s' a j k).as 130) (.exit 2) ((N5 l cm' s' a j e).as 130)) : Runs Try.prog 0 (loopN Try.prog 5 0) (St.as (I5 l cm s j) 130) (.normal) (St.as (I5 l cm' s' (j+1)) 130) := by
  refine round_wp (p := condP (decide ((↑j : Int) < (↑(List.map atD l).length : Int))) (((0 : Int) ≤ (↑j : Int)) ∧ (((List.map atD l)[(↑j : Int).toNat]? = some (D.agg [D.bool a.c, D.int IntKind.u8 a.f, D.int IntKind.u8 a.l])) ∧ (((0 : Int) ≤ (↑j : Int)) ∧ (((List.map atD l)[(↑j : Int).toNat]? = some (D.agg [D.bool a.c, D.int IntKind.u8 a.f, D.int IntKind.u8 a.l])) ∧ (((0 : Int) ≤ (↑j : Int)) ∧ (((List.map atD l)[(↑j : Int).toNat]? = some (D.agg [D.bool a.c, D.int IntKind.u8 a.f, D.int IntKind.u8 a.l])) ∧ (((0 : Int) ≤ (↑j : Int)) ∧ (((List.map atD l)[(↑j : Int).toNat]? = some (D.agg [D.bool a.c, D.int IntKind.u8 a.f, D.int IntKind.u8 a.l])) ∧ ((D.bool a.c = D.bool true) ∧ ((FnOK Try.prog (13 : Nat) [AV.d (D.sl (List.map ivD s)), AV.d (D.agg [D.int IntKind.i64 (IntKind.i64.wrap a.f), D.int IntKind.i64 (IntKind.i64.wrap (IntKind.i64.wrap a.f + IntKind.i64.wrap a.l))])] [] (AV.d (D.sl (List.map ivD s'))) []) ∧ ((AV.d (D.sl (List.map atD l)) = AV.d (D.sl (List.map atD l))) ∧ ((AV.d (D.sl (List.map ivD s')) = AV.d (D.sl (List.map ivD s'))) ∧ ((AV.rptr (0 : Nat) (1 : Nat) (0 : Nat) (0 : Nat) = AV.rptr (0 : Nat) (1 : Nat) (0 : Nat) (0 : Nat)) ∧ ((AV.d (D.int IntKind.i64 (↑j : Int)) = AV.d (D.int IntKind.i64 (↑j : Int))) ∧ ((AV.ptr (1048 : Nat) (0 : Nat) = AV.ptr (1048 : Nat) (0 : Nat)) ∧ ((AV.d (D.int IntKind.i64 (IntKind.i64.wrap a.f)) = AV.d (D.int IntKind.i64 (↑k : Int))) ∧ ((Ob.row (1 : Nat) (bD cm) = Ob.row (1 : Nat) (bD cm)) ∧ ((Ob.box [AV.d (D.int IntKind.i64 (IntKind.i64.wrap a.f)), AV.d (D.int IntKind.i64 (IntKind.i64.wrap (IntKind.i64.wrap a.f + IntKind.i64.wrap a.l)))] = Ob.box [AV.d (D.int IntKind.i64 (atI a).fst), AV.d (D.int IntKind.i64 (atI a).snd)]) ∧ ((LoopsS Try.prog (0 : Nat) (loopN Try.prog (5 : Nat) (1 : Nat)) (N5 l cm s' a j k) (Exit.exit (2 : Nat)) (N5 l cm' s' a j e) (130 : Nat)) ∧ ((AV.d (D.sl (List.map atD l)) = AV.d (D.sl (List.map atD l))) ∧ ((AV.d (D.sl (List.map ivD s')) = AV.d (D.sl (List.map ivD s'))) ∧ ((AV.rptr (0 : Nat) (1 : Nat) (0 : Nat) (0 : Nat) = AV.rptr (0 : Nat) (1 : Nat) (0 : Nat) (0 : Nat)) ∧ ((AV.d (D.int IntKind.i64 (IntKind.i64.wrap ((↑j : Int) + (1 : Int)))) = AV.d (D.int IntKind.i64 (↑(j + (1 : Nat)) : Int))) ∧ ((Ob.row (1 : Nat) (bD cm') = Ob.row (1 : Nat) (bD cm')) ∧ (True))))))))))))))))))))))))) (False)) (h := {els := [(22, .el (atD a)), (28, .el (atD a)), (34, .el (atD a)), (42, .el (atD a))], H := [(9, [(4, .val (.bool true))])], G := [(13, gAns (.d (.sl (s'.map ivD))))]}) (subs := [⟨[], [], N5 l cm s' a j k, .exit 2, N5 l cm' s' a j e⟩]) (ws := []) (ρ := []) (by kernel_rfl) ?_
  have hj := get_lt hn
  have hi := inc_i64 (j := j) (by omega)
  have w1 : IntKind.i64.wrap a.f = a.f := by rw [IntKind.wrap_i64]; unfold AtOk at ha; omega
  have w2 : IntKind.i64.wrap a.l = a.l := by rw [IntKind.wrap_i64]; unfold AtOk at ha; omega
  have w3 : IntKind.i64.wrap (a.f + a.l) = a.f + a.l := by rw [IntKind.wrap_i64]; unfold AtOk at ha; omega
  have hx : AV.d (.int .i64 a.f) = AV.d (.int .i64 k) := by rw [hf]
  simp only [hi, w1, w2, w3, List.length_map]
  refine condP_t (by rw [decide_eq_true_eq]; omega) ?_
  repeat' (first | with_reducible exact True.intro | with_reducible refine And.intro ?_ ?_ | with_reducible refine condP_dec (fun _ => ?_) (fun _ => ?_) | with_reducible refine condP_eq (fun _ => ?_) (fun _ => ?_) | with_reducible refine condP_ne (fun _ => ?_) (fun _ => ?_) | with_reducible refine condP_not (condP_dec (fun _ => ?_) (fun _ => ?_)) | with_reducible refine condP_not (condP_eq (fun _ => ?_) (fun _ => ?_)) | with_reducible refine condP_not (condP_intro (fun _ => ?_) (fun _ => ?_)) | with_reducible refine condP_intro (fun _ => ?_) (fun _ => ?_))
  all_goals first | exact k1 | exact hL | exact hx | exact el_map hn rfl | rfl | omega | (refine congrArg D.bool ?_; assumption) | skip

set_option maxRecDepth 100000 in
set_option maxHeartbeats 1000000 in
theorem r5a (l : List At) (hl : l.length ≤ 40) (cm cm' : List Bool) (s s' : List Iv) (a : At) (ha : AtOk a) (j k e : Nat) (hn : l[j]? = some a) (hf : a.f = k) (hq : a.c = false) (k1 : FnOK Try.prog 11 [.d (.sl (s.map ivD)), .d (ivD (atI a))] [] (.d (.sl (s'.map ivD))) []) (hL : Loops Try.prog 0 (loopN Try.prog 5 1) ((N5 l cm s' a j k).as 130) (.exit 2) ((N5 l cm' s' a j e).as 130)) : Runs Try.prog 0 (loopN Try.prog 5 0) (St.as (I5 l cm s j) 130) (.normal) (St.as (I5 l cm' s' (j+1)) 130) := by
  refine round_wp (p := condP (decide ((↑j : Int) < (↑(List.map atD l).length : Int))) (((0 : Int) ≤ (↑j : Int)) ∧ (((List.map atD l)[(↑j : Int).toNat]? = some (D.agg [D.bool a.c, D.int IntKind.u8 a.f, D.int IntKind.u8 a.l])) ∧ (((0 : Int) ≤ (↑j : Int)) ∧ (((List.map atD l)[(↑j : Int).toNat]? = some (D.agg [D.bool a.c, D.int IntKind.u8 a.f, D.int IntKind.u8 a.l])) ∧ (((0 : Int) ≤ (↑j : Int)) ∧ (((List.map atD l)[(↑j : Int).toNat]? = some (D.agg [D.bool a.c, D.int IntKind.u8 a.f, D.int IntKind.u8 a.l])) ∧ (((0 : Int) ≤ (↑j : Int)) ∧ (((List.map atD l)[(↑j : Int).toNat]? = some (D.agg [D.bool a.c, D.int IntKind.u8 a.f, D.int IntKind.u8 a.l])) ∧ ((D.bool a.c = D.bool false) ∧ ((FnOK Try.prog (11 : Nat) [AV.d (D.sl (List.map ivD s)), AV.d (D.agg [D.int IntKind.i64 (IntKind.i64.wrap a.f), D.int IntKind.i64 (IntKind.i64.wrap (IntKind.i64.wrap a.f + IntKind.i64.wrap a.l))])] [] (AV.d (D.sl (List.map ivD s'))) []) ∧ ((AV.d (D.sl (List.map atD l)) = AV.d (D.sl (List.map atD l))) ∧ ((AV.d (D.sl (List.map ivD s')) = AV.d (D.sl (List.map ivD s'))) ∧ ((AV.rptr (0 : Nat) (1 : Nat) (0 : Nat) (0 : Nat) = AV.rptr (0 : Nat) (1 : Nat) (0 : Nat) (0 : Nat)) ∧ ((AV.d (D.int IntKind.i64 (↑j : Int)) = AV.d (D.int IntKind.i64 (↑j : Int))) ∧ ((AV.ptr (1048 : Nat) (0 : Nat) = AV.ptr (1048 : Nat) (0 : Nat)) ∧ ((AV.d (D.int IntKind.i64 (IntKind.i64.wrap a.f)) = AV.d (D.int IntKind.i64 (↑k : Int))) ∧ ((Ob.row (1 : Nat) (bD cm) = Ob.row (1 : Nat) (bD cm)) ∧ ((Ob.box [AV.d (D.int IntKind.i64 (IntKind.i64.wrap a.f)), AV.d (D.int IntKind.i64 (IntKind.i64.wrap (IntKind.i64.wrap a.f + IntKind.i64.wrap a.l)))] = Ob.box [AV.d (D.int IntKind.i64 (atI a).fst), AV.d (D.int IntKind.i64 (atI a).snd)]) ∧ ((LoopsS Try.prog (0 : Nat) (loopN Try.prog (5 : Nat) (1 : Nat)) (N5 l cm s' a j k) (Exit.exit (2 : Nat)) (N5 l cm' s' a j e) (130 : Nat)) ∧ ((AV.d (D.sl (List.map atD l)) = AV.d (D.sl (List.map atD l))) ∧ ((AV.d (D.sl (List.map ivD s')) = AV.d (D.sl (List.map ivD s'))) ∧ ((AV.rptr (0 : Nat) (1 : Nat) (0 : Nat) (0 : Nat) = AV.rptr (0 : Nat) (1 : Nat) (0 : Nat) (0 : Nat)) ∧ ((AV.d (D.int IntKind.i64 (IntKind.i64.wrap ((↑j : Int) + (1 : Int)))) = AV.d (D.int IntKind.i64 (↑(j + (1 : Nat)) : Int))) ∧ ((Ob.row (1 : Nat) (bD cm') = Ob.row (1 : Nat) (bD cm')) ∧ (True))))))))))))))))))))))))) (False)) (h := {els := [(22, .el (atD a)), (28, .el (atD a)), (34, .el (atD a)), (42, .el (atD a))], H := [(9, [(4, .val (.bool false))])], G := [(11, gAns (.d (.sl (s'.map ivD))))]}) (subs := [⟨[], [], N5 l cm s' a j k, .exit 2, N5 l cm' s' a j e⟩]) (ws := []) (ρ := []) (by kernel_rfl) ?_
  have hj := get_lt hn
  have hi := inc_i64 (j := j) (by omega)
  have w1 : IntKind.i64.wrap a.f = a.f := by rw [IntKind.wrap_i64]; unfold AtOk at ha; omega
  have w2 : IntKind.i64.wrap a.l = a.l := by rw [IntKind.wrap_i64]; unfold AtOk at ha; omega
  have w3 : IntKind.i64.wrap (a.f + a.l) = a.f + a.l := by rw [IntKind.wrap_i64]; unfold AtOk at ha; omega
  have hx : AV.d (.int .i64 a.f) = AV.d (.int .i64 k) := by rw [hf]
  simp only [hi, w1, w2, w3, List.length_map]
  refine condP_t (by rw [decide_eq_true_eq]; omega) ?_
  repeat' (first | with_reducible exact True.intro | with_reducible refine And.intro ?_ ?_ | with_reducible refine condP_dec (fun _ => ?_) (fun _ => ?_) | with_reducible refine condP_eq (fun _ => ?_) (fun _ => ?_) | with_reducible refine condP_ne (fun _ => ?_) (fun _ => ?_) | with_reducible refine condP_not (condP_dec (fun _ => ?_) (fun _ => ?_)) | with_reducible refine condP_not (condP_eq (fun _ => ?_) (fun _ => ?_)) | with_reducible refine condP_not (condP_intro (fun _ => ?_) (fun _ => ?_)) | with_reducible refine condP_intro (fun _ => ?_) (fun _ => ?_))
  all_goals first | exact k1 | exact hL | exact hx | exact el_map hn rfl | rfl | omega | (refine congrArg D.bool ?_; assumption) | skip

set_option maxRecDepth 100000 in
set_option maxHeartbeats 1000000 in
theorem q5 (l : List At) (cm : List Bool) (s : List Iv) : Runs Try.prog 0 (loopN Try.prog 5 0) (St.as (I5 l cm s l.length) 130) (.exit 0) (St.as (I5 l cm s l.length) 130) := by
  refine round_wp (p := condP (decide ((↑l.length : Int) < (↑(List.map atD l).length : Int))) (False) ((AV.d (D.sl (List.map atD l)) = AV.d (D.sl (List.map atD l))) ∧ ((AV.d (D.sl (List.map ivD s)) = AV.d (D.sl (List.map ivD s))) ∧ ((AV.rptr (0 : Nat) (1 : Nat) (0 : Nat) (0 : Nat) = AV.rptr (0 : Nat) (1 : Nat) (0 : Nat) (0 : Nat)) ∧ ((AV.d (D.int IntKind.i64 (↑l.length : Int)) = AV.d (D.int IntKind.i64 (↑l.length : Int))) ∧ ((Ob.row (1 : Nat) (bD cm) = Ob.row (1 : Nat) (bD cm)) ∧ (True))))))) (h := {}) (subs := []) (ws := []) (ρ := []) (by kernel_rfl) ?_
  repeat' (first | with_reducible exact True.intro | with_reducible refine And.intro ?_ ?_ | with_reducible refine condP_dec (fun _ => ?_) (fun _ => ?_) | with_reducible refine condP_eq (fun _ => ?_) (fun _ => ?_) | with_reducible refine condP_ne (fun _ => ?_) (fun _ => ?_) | with_reducible refine condP_not (condP_dec (fun _ => ?_) (fun _ => ?_)) | with_reducible refine condP_not (condP_eq (fun _ => ?_) (fun _ => ?_)) | with_reducible refine condP_not (condP_intro (fun _ => ?_) (fun _ => ?_)) | with_reducible refine condP_intro (fun _ => ?_) (fun _ => ?_))
  all_goals (try simp only [List.length_map, AV.d.injEq, D.int.injEq, D.bool.injEq, D.str.injEq, D.sl.injEq, true_and, and_true, decide_eq_true_eq, decide_eq_false_iff_not, decide_eq_decide])
  all_goals (try simp only [List.length_map] at *)
  all_goals first | rfl | omega

end Go.Proofs.Ytkfiojolgkfbcaa
