/-
laws 06: what is taken out and put in again. No condition beyond the statements' own.
-/
import Derived.Test.YtkfiojolgkfbcaaS16
set_option linter.unusedSimpArgs false
set_option linter.unusedVariables false
namespace Go.Proofs.Ytkfiojolgkfbcaa
open Sx Go.RowKit

structure At where
  c : Bool
  f : Int
  l : Int
def atD (a : At) : D := .agg [.bool a.c, .int .u8 a.f, .int .u8 a.l]
def atI (a : At) : Iv := (a.f, a.f + a.l)
def AtOk (a : At) : Prop := (0 ≤ a.f ∧ a.f < 256) ∧ 0 ≤ a.l ∧ a.l < 256
theorem atI_may {a : At} (h : AtOk a) : mayB (atI a) = true ∧ (atI a).2 ≤ (512 : Nat) := by
  unfold AtOk at h
  exact ⟨mayB_iff.2 ⟨⟨by show 0 ≤ a.f; omega, by show a.f ≤ _; omega⟩, by show 0 ≤ a.f + a.l; omega, by show a.f + a.l ≤ _; omega⟩, by show a.f + a.l ≤ _; omega⟩
def addsF (l : List At) : List Iv := l.foldl (fun s a => rAdd s (atI a)) []
theorem adds_low : ∀ (l : List At) {s : List Iv}, (∀ a ∈ l, AtOk a) → Low 512 s → Low 512 (l.foldl (fun s a => rAdd s (atI a)) s)
  | [], s, _, h => h
  | a :: l, s, hl, h => adds_low l (fun b hb => hl b (List.mem_cons_of_mem _ hb)) (low_add h (atI_may (hl a (by simp))).1 (atI_may (hl a (by simp))).2)
def bxA (a : At) : Ob := .box [.d (.bool a.c), .d (.int .u8 a.f), .d (.int .u8 a.l)]
def I6 (l m : List At) (x : At) (s : List Iv) (j : Nat) : St := ⟨[(0, .d (.sl (l.map atD))), (1, .d (.sl (m.map atD))), (5, .ptr 0 0), (7, .d (.sl (s.map ivD))), (8, .d (.sl [])), (9, .d (.int .i64 j))], [(0, bxA x)]⟩
def J6 (m : List At) (x : At) (s o : List Iv) (j : Nat) : St := ⟨[(1, .d (.sl (m.map atD))), (5, .ptr 0 0), (7, .d (.sl (s.map ivD))), (8, .d (.sl (o.map ivD))), (10, .d (.int .i64 j))], [(0, bxA x)]⟩
set_option maxRecDepth 100000 in
set_option maxHeartbeats 1000000 in
theorem r6 (l m : List At) (hl : l.length ≤ 30) (x : At) (s t : List Iv) (j : Nat) (a : At) (hn : l[j]? = some a) (ha : AtOk a) (k1 : FnOK Try.prog 11 [.d (.sl (s.map ivD)), .d (ivD (atI a))] [] (.d (.sl (t.map ivD))) []) : Runs Try.prog 0 (loopN Try.prog 6 0) (St.as (I6 l m x s j) 157) (.normal) (St.as (I6 l m x t (j+1)) 157) := by
  refine round_wp (p := condP (decide ((↑j : Int) < (↑(List.map atD l).length : Int))) (((0 : Int) ≤ (↑j : Int)) ∧ (((List.map atD l)[(↑j : Int).toNat]? = some (D.agg [D.bool a.c, D.int IntKind.u8 a.f, D.int IntKind.u8 a.l])) ∧ (((0 : Int) ≤ (↑j : Int)) ∧ (((List.map atD l)[(↑j : Int).toNat]? = some (D.agg [D.bool a.c, D.int IntKind.u8 a.f, D.int IntKind.u8 a.l])) ∧ (((0 : Int) ≤ (↑j : Int)) ∧ (((List.map atD l)[(↑j : Int).toNat]? = some (D.agg [D.bool a.c, D.int IntKind.u8 a.f, D.int IntKind.u8 a.l])) ∧ ((FnOK Try.prog (11 : Nat) [AV.d (D.sl (List.map ivD s)), AV.d (D.agg [D.int IntKind.i64 (IntKind.i64.wrap a.f), D.int IntKind.i64 (IntKind.i64.wrap (IntKind.i64.wrap a.f + IntKind.i64.wrap a.l))])] [] (AV.d (D.sl (List.map ivD t))) []) ∧ ((AV.d (D.sl (List.map atD l)) = AV.d (D.sl (List.map atD l))) ∧ ((AV.d (D.sl (List.map atD m)) = AV.d (D.sl (List.map atD m))) ∧ ((AV.ptr (0 : Nat) (0 : Nat) = AV.ptr (0 : Nat) (0 : Nat)) ∧ ((AV.d (D.sl (List.map ivD t)) = AV.d (D.sl (List.map ivD t))) ∧ ((AV.d (D.sl []) = AV.d (D.sl [])) ∧ ((AV.d (D.int IntKind.i64 (IntKind.i64.wrap ((↑j : Int) + (1 : Int)))) = AV.d (D.int IntKind.i64 (↑(j + (1 : Nat)) : Int))) ∧ ((Ob.box [AV.d (D.bool x.c), AV.d (D.int IntKind.u8 x.f), AV.d (D.int IntKind.u8 x.l)] = Ob.box [AV.d (D.bool x.c), AV.d (D.int IntKind.u8 x.f), AV.d (D.int IntKind.u8 x.l)]) ∧ (True))))))))))))))) (False)) (h := {els := [(30, .el (atD a)), (36, .el (atD a)), (42, .el (atD a))], G := [(11, gAns (.d (.sl (t.map ivD))))]}) (subs := []) (ws := []) (ρ := []) (by kernel_rfl) ?_
  have hj := get_lt hn
  have hi := inc_i64 (j := j) (by omega)
  have w1 : IntKind.i64.wrap a.f = a.f := by rw [IntKind.wrap_i64]; unfold AtOk at ha; omega
  have w2 : IntKind.i64.wrap a.l = a.l := by rw [IntKind.wrap_i64]; unfold AtOk at ha; omega
  have w3 : IntKind.i64.wrap (a.f + a.l) = a.f + a.l := by rw [IntKind.wrap_i64]; unfold AtOk at ha; omega
  simp only [hi, w1, w2, w3, List.length_map]
  refine condP_t (by rw [decide_eq_true_eq]; omega) ?_
  repeat' (first | with_reducible exact True.intro | with_reducible refine And.intro ?_ ?_ | with_reducible refine condP_dec (fun _ => ?_) (fun _ => ?_) | with_reducible refine condP_eq (fun _ => ?_) (fun _ => ?_) | with_reducible refine condP_ne (fun _ => ?_) (fun _ => ?_) | with_reducible refine condP_not (condP_dec (fun _ => ?_) (fun _ => ?_)) | with_reducible refine condP_not (condP_eq (fun _ => ?_) (fun _ => ?_)) | with_reducible refine condP_not (condP_intro (fun _ => ?_) (fun _ => ?_)) | with_reducible refine condP_intro (fun _ => ?_) (fun _ => ?_))
  all_goals first | exact k1 | exact el_map hn rfl | rfl | omega | skip

set_option maxRecDepth 100000 in
set_option maxHeartbeats 1000000 in
theorem q6 (l m : List At) (x : At) (s : List Iv) : Runs Try.prog 0 (loopN Try.prog 6 0) (St.as (I6 l m x s l.length) 157) (.exit 0) (St.as (I6 l m x s l.length) 157) := by
  refine round_wp (p := condP (decide ((↑l.length : Int) < (↑(List.map atD l).length : Int))) (False) ((AV.d (D.sl (List.map atD l)) = AV.d (D.sl (List.map atD l))) ∧ ((AV.d (D.sl (List.map atD m)) = AV.d (D.sl (List.map atD m))) ∧ ((AV.ptr (0 : Nat) (0 : Nat) = AV.ptr (0 : Nat) (0 : Nat)) ∧ ((AV.d (D.sl (List.map ivD s)) = AV.d (D.sl (List.map ivD s))) ∧ ((AV.d (D.sl []) = AV.d (D.sl [])) ∧ ((AV.d (D.int IntKind.i64 (↑l.length : Int)) = AV.d (D.int IntKind.i64 (↑l.length : Int))) ∧ ((Ob.box [AV.d (D.bool x.c), AV.d (D.int IntKind.u8 x.f), AV.d (D.int IntKind.u8 x.l)] = Ob.box [AV.d (D.bool x.c), AV.d (D.int IntKind.u8 x.f), AV.d (D.int IntKind.u8 x.l)]) ∧ (True))))))))) (h := {}) (subs := []) (ws := []) (ρ := []) (by kernel_rfl) ?_
  repeat' (first | with_reducible exact True.intro | with_reducible refine And.intro ?_ ?_ | with_reducible refine condP_dec (fun _ => ?_) (fun _ => ?_) | with_reducible refine condP_eq (fun _ => ?_) (fun _ => ?_) | with_reducible refine condP_ne (fun _ => ?_) (fun _ => ?_) | with_reducible refine condP_not (condP_dec (fun _ => ?_) (fun _ => ?_)) | with_reducible refine condP_not (condP_eq (fun _ => ?_) (fun _ => ?_)) | with_reducible refine condP_not (condP_intro (fun _ => ?_) (fun _ => ?_)) | with_reducible refine condP_intro (fun _ => ?_) (fun _ => ?_))
  all_goals (try simp only [List.length_map, AV.d.injEq, D.int.injEq, D.bool.injEq, D.str.injEq, D.sl.injEq, true_and, and_true, decide_eq_true_eq, decide_eq_false_iff_not, decide_eq_decide])
  all_goals (try simp only [List.length_map] at *)
  all_goals first | rfl | omega

set_option maxRecDepth 100000 in
set_option maxHeartbeats 1000000 in
theorem rb6 (m : List At) (hl : m.length ≤ 30) (x : At) (s o t : List Iv) (j : Nat) (a : At) (hn : m[j]? = some a) (ha : AtOk a) (k1 : FnOK Try.prog 11 [.d (.sl (o.map ivD)), .d (ivD (atI a))] [] (.d (.sl (t.map ivD))) []) : Runs Try.prog 0 (loopN Try.prog 6 1) (St.as (J6 m x s o j) 157) (.normal) (St.as (J6 m x s t (j+1)) 157) := by
  refine round_wp (p := condP (decide ((↑j : Int) < (↑(List.map atD m).length : Int))) (((0 : Int) ≤ (↑j : Int)) ∧ (((List.map atD m)[(↑j : Int).toNat]? = some (D.agg [D.bool a.c, D.int IntKind.u8 a.f, D.int IntKind.u8 a.l])) ∧ (((0 : Int) ≤ (↑j : Int)) ∧ (((List.map atD m)[(↑j : Int).toNat]? = some (D.agg [D.bool a.c, D.int IntKind.u8 a.f, D.int IntKind.u8 a.l])) ∧ (((0 : Int) ≤ (↑j : Int)) ∧ (((List.map atD m)[(↑j : Int).toNat]? = some (D.agg [D.bool a.c, D.int IntKind.u8 a.f, D.int IntKind.u8 a.l])) ∧ ((FnOK Try.prog (11 : Nat) [AV.d (D.sl (List.map ivD o)), AV.d (D.agg [D.int IntKind.i64 (IntKind.i64.wrap a.f), D.int IntKind.i64 (IntKind.i64.wrap (IntKind.i64.wrap a.f + IntKind.i64.wrap a.l))])] [] (AV.d (D.sl (List.map ivD t))) []) ∧ ((AV.d (D.sl (List.map atD m)) = AV.d (D.sl (List.map atD m))) ∧ ((AV.ptr (0 : Nat) (0 : Nat) = AV.ptr (0 : Nat) (0 : Nat)) ∧ ((AV.d (D.sl (List.map ivD s)) = AV.d (D.sl (List.map ivD s))) ∧ ((AV.d (D.sl (List.map ivD t)) = AV.d (D.sl (List.map ivD t))) ∧ ((AV.d (D.int IntKind.i64 (IntKind.i64.wrap ((↑j : Int) + (1 : Int)))) = AV.d (D.int IntKind.i64 (↑(j + (1 : Nat)) : Int))) ∧ ((Ob.box [AV.d (D.bool x.c), AV.d (D.int IntKind.u8 x.f), AV.d (D.int IntKind.u8 x.l)] = Ob.box [AV.d (D.bool x.c), AV.d (D.int IntKind.u8 x.f), AV.d (D.int IntKind.u8 x.l)]) ∧ (True)))))))))))))) (False)) (h := {els := [(58, .el (atD a)), (64, .el (atD a)), (70, .el (atD a))], G := [(11, gAns (.d (.sl (t.map ivD))))]}) (subs := []) (ws := []) (ρ := []) (by kernel_rfl) ?_
  have hj := get_lt hn
  have hi := inc_i64 (j := j) (by omega)
  have w1 : IntKind.i64.wrap a.f = a.f := by rw [IntKind.wrap_i64]; unfold AtOk at ha; omega
  have w2 : IntKind.i64.wrap a.l = a.l := by rw [IntKind.wrap_i64]; unfold AtOk at ha; omega
  have w3 : IntKind.i64.wrap (a.f + a.l) = a.f + a.l := by rw [IntKind.wrap_i64]; unfold AtOk at ha; omega
  simp only [hi, w1, w2, w3, List.length_map]
  refine condP_t (by rw [decide_eq_true_eq]; omega) ?_
  repeat' (first | with_reducible exact True.intro | with_reducible refine And.intro ?_ ?_ | with_reducible refine condP_dec (fun _ => ?_) (fun _ => ?_) | with_reducible refine condP_eq (fun _ => ?_) (fun _ => ?_) | with_reducible refine condP_ne (fun _ => ?_) (fun _ => ?_) | with_reducible refine condP_not (condP_dec (fun _ => ?_) (fun _ => ?_)) | with_reducible refine condP_not (condP_eq (fun _ => ?_) (fun _ => ?_)) | with_reducible refine condP_not (condP_intro (fun _ => ?_) (fun _ => ?_)) | with_reducible refine condP_intro (fun _ => ?_) (fun _ => ?_))
  all_goals first | exact k1 | exact el_map hn rfl | rfl | omega | skip

set_option maxRecDepth 100000 in
set_option maxHeartbeats 1000000 in
theorem qb6 (m : List At) (x : At) (s o : List Iv) : Runs Try.prog 0 (loopN Try.prog 6 1) (St.as (J6 m x s o m.length) 157) (.exit 2) (St.as (J6 m x s o m.length) 157) := by
  refine round_wp (p := condP (decide ((↑m.length : Int) < (↑(List.map atD m).length : Int))) (False) ((AV.d (D.sl (List.map atD m)) = AV.d (D.sl (List.map atD m))) ∧ ((AV.ptr (0 : Nat) (0 : Nat) = AV.ptr (0 : Nat) (0 : Nat)) ∧ ((AV.d (D.sl (List.map ivD s)) = AV.d (D.sl (List.map ivD s))) ∧ ((AV.d (D.sl (List.map ivD o)) = AV.d (D.sl (List.map ivD o))) ∧ ((AV.d (D.int IntKind.i64 (↑m.length : Int)) = AV.d (D.int IntKind.i64 (↑m.length : Int))) ∧ ((Ob.box [AV.d (D.bool x.c), AV.d (D.int IntKind.u8 x.f), AV.d (D.int IntKind.u8 x.l)] = Ob.box [AV.d (D.bool x.c), AV.d (D.int IntKind.u8 x.f), AV.d (D.int IntKind.u8 x.l)]) ∧ (True)))))))) (h := {}) (subs := []) (ws := []) (ρ := []) (by kernel_rfl) ?_
  repeat' (first | with_reducible exact True.intro | with_reducible refine And.intro ?_ ?_ | with_reducible refine condP_dec (fun _ => ?_) (fun _ => ?_) | with_reducible refine condP_eq (fun _ => ?_) (fun _ => ?_) | with_reducible refine condP_ne (fun _ => ?_) (fun _ => ?_) | with_reducible refine condP_not (condP_dec (fun _ => ?_) (fun _ => ?_)) | with_reducible refine condP_not (condP_eq (fun _ => ?_) (fun _ => ?_)) | with_reducible refine condP_not (condP_intro (fun _ => ?_) (fun _ => ?_)) | with_reducible refine condP_intro (fun _ => ?_) (fun _ => ?_))
  all_goals (try simp only [List.length_map, AV.d.injEq, D.int.injEq, D.bool.injEq, D.str.injEq, D.sl.injEq, true_and, and_true, decide_eq_true_eq, decide_eq_false_iff_not, decide_eq_decide])
  all_goals (try simp only [List.length_map] at *)
  all_goals first | rfl | omega

set_option maxRecDepth 100000 in
set_option maxHeartbeats 1000000 in
theorem again6 (l m : List At) (hl : l.length ≤ 30) (hm : m.length ≤ 30) (x : At) (hx : AtOk x) (s o a b c w h : List Iv) (na nb ns no nc : Int) (hA : Loops Try.prog 0 (loopN Try.prog 6 0) ((I6 l m x [] 0).as 157) (.exit 0) ((I6 l m x s l.length).as 157)) (hB : Loops Try.prog 0 (loopN Try.prog 6 1) ((J6 m x s [] 0).as 157) (.exit 2) ((J6 m x s o m.length).as 157)) (k1 : FnOK Try.prog 11 [.d (.sl (s.map ivD)), .d (ivD (atI x))] [] (.d (.sl (a.map ivD))) []) (k2 : FnOK Try.prog 17 [.d (.sl (s.map ivD)), .d (.sl (o.map ivD))] [] (.d (.sl (b.map ivD))) []) (k3 : FnOK Try.prog 13 [.d (.sl (s.map ivD)), .d (ivD (atI x))] [] (.d (.sl (c.map ivD))) []) (k4 : FnOK Try.prog 11 [.d (.sl (c.map ivD)), .d (ivD (atI x))] [] (.d (.sl (a.map ivD))) []) (k5 : FnOK Try.prog 11 [.d (.sl (a.map ivD)), .d (ivD (atI x))] [] (.d (.sl (a.map ivD))) []) (k6 : FnOK Try.prog 26 [.d (.sl (a.map ivD)), .d (ivD (atI x))] [] (.d (.bool true)) []) (k7 : FnOK Try.prog 17 [.d (.sl (o.map ivD)), .d (.sl (s.map ivD))] [] (.d (.sl (b.map ivD))) []) (k8 : FnOK Try.prog 17 [.d (.sl (s.map ivD)), .d (.sl (s.map ivD))] [] (.d (.sl (s.map ivD))) []) (k9 : FnOK Try.prog 11 [.d (.sl []), .d (ivD (atI x))] [] (.d (.sl (w.map ivD))) []) (ka : FnOK Try.prog 17 [.d (.sl (s.map ivD)), .d (.sl (w.map ivD))] [] (.d (.sl (h.map ivD))) []) (n1 : FnOK Try.prog 21 [.d (.sl (b.map ivD))] [] (.d (.int .i64 nb)) []) (n2 : FnOK Try.prog 21 [.d (.sl (s.map ivD))] [] (.d (.int .i64 ns)) []) (n3 : FnOK Try.prog 21 [.d (.sl (o.map ivD))] [] (.d (.int .i64 no)) []) (n4 : FnOK Try.prog 21 [.d (.sl (c.map ivD))] [] (.d (.int .i64 nc)) []) (n5 : FnOK Try.prog 21 [.d (.sl (h.map ivD))] [] (.d (.int .i64 na)) []) (e1 : nb ≤ min ns no) (e2 : IntKind.i64.wrap (nc + na) = ns) (e3 : a.length < 1000) (e4 : b.length < 1000) (e5 : s.length < 1000) : FnOK Try.prog 6 ([.d (.sl (l.map atD)), .d (.sl (m.map atD)), .d (atD x)]) ([]) (.d (.bool true)) ([]) := by
  refine fnOK_wp (p := (D.bool (decide ((↑(List.map atD l).length : Int) > (30 : Int))) = D.bool false) ∧ ((D.bool (decide ((↑(List.map atD m).length : Int) > (30 : Int))) = D.bool false) ∧ ((AV.d (D.sl (List.map atD l)) = AV.d (D.sl (List.map atD l))) ∧ ((AV.d (D.sl (List.map atD m)) = AV.d (D.sl (List.map atD m))) ∧ ((AV.ptr (1040 : Nat) (0 : Nat) = AV.ptr (1040 : Nat) (0 : Nat)) ∧ ((AV.d (D.sl []) = AV.d (D.sl [])) ∧ ((AV.d (D.sl []) = AV.d (D.sl [])) ∧ ((AV.d (D.int IntKind.i64 (0 : Int)) = AV.d (D.int IntKind.i64 (0 : Int))) ∧ ((Ob.box [AV.d (D.bool x.c), AV.d (D.int IntKind.u8 x.f), AV.d (D.int IntKind.u8 x.l)] = Ob.box [AV.d (D.bool x.c), AV.d (D.int IntKind.u8 x.f), AV.d (D.int IntKind.u8 x.l)]) ∧ ((LoopsS Try.prog (0 : Nat) (loopN Try.prog (6 : Nat) (0 : Nat)) (I6 l m x [] (0 : Nat)) (Exit.exit (0 : Nat)) (I6 l m x s l.length) (157 : Nat)) ∧ ((AV.d (D.sl (List.map atD m)) = AV.d (D.sl (List.map atD m))) ∧ ((AV.ptr (0 : Nat) (0 : Nat) = AV.ptr (0 : Nat) (0 : Nat)) ∧ ((AV.d (D.sl (List.map ivD s)) = AV.d (D.sl (List.map ivD s))) ∧ ((AV.d (D.sl []) = AV.d (D.sl [])) ∧ ((AV.d (D.int IntKind.i64 (0 : Int)) = AV.d (D.int IntKind.i64 (0 : Int))) ∧ ((Ob.box [AV.d (D.bool x.c), AV.d (D.int IntKind.u8 x.f), AV.d (D.int IntKind.u8 x.l)] = Ob.box [AV.d (D.bool x.c), AV.d (D.int IntKind.u8 x.f), AV.d (D.int IntKind.u8 x.l)]) ∧ ((LoopsS Try.prog (0 : Nat) (loopN Try.prog (6 : Nat) (1 : Nat)) (J6 m x s [] (0 : Nat)) (Exit.exit (2 : Nat)) (J6 m x s o m.length) (157 : Nat)) ∧ ((FnOK Try.prog (11 : Nat) [AV.d (D.sl (List.map ivD s)), AV.d (D.agg [D.int IntKind.i64 (IntKind.i64.wrap x.f), D.int IntKind.i64 (IntKind.i64.wrap (IntKind.i64.wrap x.f + IntKind.i64.wrap x.l))])] [] (AV.d (D.sl (List.map ivD a))) []) ∧ ((FnOK Try.prog (17 : Nat) [AV.d (D.sl (List.map ivD s)), AV.d (D.sl (List.map ivD o))] [] (AV.d (D.sl (List.map ivD b))) []) ∧ ((FnOK Try.prog (13 : Nat) [AV.d (D.sl (List.map ivD s)), AV.d (D.agg [D.int IntKind.i64 (IntKind.i64.wrap x.f), D.int IntKind.i64 (IntKind.i64.wrap (IntKind.i64.wrap x.f + IntKind.i64.wrap x.l))])] [] (AV.d (D.sl (List.map ivD c))) []) ∧ ((FnOK Try.prog (11 : Nat) [AV.d (D.sl (List.map ivD c)), AV.d (D.agg [D.int IntKind.i64 (IntKind.i64.wrap x.f), D.int IntKind.i64 (IntKind.i64.wrap (IntKind.i64.wrap x.f + IntKind.i64.wrap x.l))])] [] (AV.d (D.sl (List.map ivD a))) []) ∧ ((FnOK Try.prog (23 : Nat) [AV.d (D.sl (List.map ivD a)), AV.d (D.sl (List.map ivD a))] [] (AV.d (D.bool true)) []) ∧ ((D.bool true = D.bool true) ∧ ((FnOK Try.prog (11 : Nat) [AV.d (D.sl (List.map ivD a)), AV.d (D.agg [D.int IntKind.i64 (IntKind.i64.wrap x.f), D.int IntKind.i64 (IntKind.i64.wrap (IntKind.i64.wrap x.f + IntKind.i64.wrap x.l))])] [] (AV.d (D.sl (List.map ivD a))) []) ∧ ((FnOK Try.prog (23 : Nat) [AV.d (D.sl (List.map ivD a)), AV.d (D.sl (List.map ivD a))] [] (AV.d (D.bool true)) []) ∧ ((D.bool true = D.bool true) ∧ ((FnOK Try.prog (26 : Nat) [AV.d (D.sl (List.map ivD a)), AV.d (D.agg [D.int IntKind.i64 (IntKind.i64.wrap x.f), D.int IntKind.i64 (IntKind.i64.wrap (IntKind.i64.wrap x.f + IntKind.i64.wrap x.l))])] [] (AV.d (D.bool true)) []) ∧ ((D.bool true = D.bool true) ∧ ((FnOK Try.prog (17 : Nat) [AV.d (D.sl (List.map ivD o)), AV.d (D.sl (List.map ivD s))] [] (AV.d (D.sl (List.map ivD b))) []) ∧ ((FnOK Try.prog (23 : Nat) [AV.d (D.sl (List.map ivD b)), AV.d (D.sl (List.map ivD b))] [] (AV.d (D.bool true)) []) ∧ ((D.bool true = D.bool true) ∧ ((FnOK Try.prog (21 : Nat) [AV.d (D.sl (List.map ivD b))] [] (AV.d (D.int IntKind.i64 nb)) []) ∧ ((FnOK Try.prog (21 : Nat) [AV.d (D.sl (List.map ivD s))] [] (AV.d (D.int IntKind.i64 ns)) []) ∧ ((FnOK Try.prog (21 : Nat) [AV.d (D.sl (List.map ivD o))] [] (AV.d (D.int IntKind.i64 no)) []) ∧ ((D.bool (decide (nb ≤ min ns no)) = D.bool true) ∧ ((D.bool true = D.bool true) ∧ ((FnOK Try.prog (17 : Nat) [AV.d (D.sl (List.map ivD s)), AV.d (D.sl (List.map ivD s))] [] (AV.d (D.sl (List.map ivD s))) []) ∧ ((FnOK Try.prog (23 : Nat) [AV.d (D.sl (List.map ivD s)), AV.d (D.sl (List.map ivD s))] [] (AV.d (D.bool true)) []) ∧ ((D.bool true = D.bool true) ∧ ((FnOK Try.prog (13 : Nat) [AV.d (D.sl (List.map ivD s)), AV.d (D.agg [D.int IntKind.i64 (IntKind.i64.wrap x.f), D.int IntKind.i64 (IntKind.i64.wrap (IntKind.i64.wrap x.f + IntKind.i64.wrap x.l))])] [] (AV.d (D.sl (List.map ivD c))) []) ∧ ((FnOK Try.prog (21 : Nat) [AV.d (D.sl (List.map ivD c))] [] (AV.d (D.int IntKind.i64 nc)) []) ∧ ((FnOK Try.prog (11 : Nat) [AV.d (D.sl []), AV.d (D.agg [D.int IntKind.i64 (IntKind.i64.wrap x.f), D.int IntKind.i64 (IntKind.i64.wrap (IntKind.i64.wrap x.f + IntKind.i64.wrap x.l))])] [] (AV.d (D.sl (List.map ivD w))) []) ∧ ((FnOK Try.prog (17 : Nat) [AV.d (D.sl (List.map ivD s)), AV.d (D.sl (List.map ivD w))] [] (AV.d (D.sl (List.map ivD h))) []) ∧ ((FnOK Try.prog (21 : Nat) [AV.d (D.sl (List.map ivD h))] [] (AV.d (D.int IntKind.i64 na)) []) ∧ ((FnOK Try.prog (21 : Nat) [AV.d (D.sl (List.map ivD s))] [] (AV.d (D.int IntKind.i64 ns)) []) ∧ ((D.bool (IntKind.i64.wrap (nc + na) == ns) = D.bool true) ∧ ((D.bool true = D.bool true) ∧ ((FnOK Try.prog (7 : Nat) [] [] (AV.d (D.bool true)) []) ∧ ((AV.d (D.bool true) = AV.d (D.bool true)) ∧ (True)))))))))))))))))))))))))))))))))))))))))))))))))) (h := {chain := true, G := [(23, gYes), (26, gYes), (7, gYes)], H := [(1, [(3, .val (.bool false)), (7, .val (.bool false))]), (13, [(2, .call [] (.d (.sl ( a.map ivD))) [])]), (14, [(2, .call [] (.d (.sl ( b.map ivD))) [])]), (15, [(2, .call [] (.d (.sl ( c.map ivD))) []), (4, .call [] (.d (.sl ( a.map ivD))) []), (10, .call [] (.d (.sl ( a.map ivD))) []), (23, .call [] (.d (.sl ( b.map ivD))) []), (28, .call [] (.d (.int .i64 nb)) []), (30, .call [] (.d (.int .i64 ns)) []), (32, .call [] (.d (.int .i64 no)) []), (34, .val (.bool true)), (39, .call [] (.d (.sl ( s.map ivD))) []), (46, .call [] (.d (.sl ( c.map ivD))) []), (47, .call [] (.d (.int .i64 nc)) []), (50, .call [] (.d (.sl ( w.map ivD))) []), (51, .call [] (.d (.sl ( h.map ivD))) []), (52, .call [] (.d (.int .i64 na)) []), (55, .call [] (.d (.int .i64 ns)) []), (56, .val (.bool true))])]}) (subs := [⟨[], [], I6 l m x [] 0, .exit 0, I6 l m x s l.length⟩, ⟨[], [], J6 m x s [] 0, .exit 2, J6 m x s o m.length⟩]) (ws := []) (ρ := []) (by kernel_rfl) ?_
  have s1 := same23 a a _ (ivD_equal a a (by omega))
  have s2 := same23 b b _ (ivD_equal b b (by omega))
  have s3 := same23 s s _ (ivD_equal s s (by omega))
  rw [decide_eq_true rfl] at s1 s2 s3
  have w1 : IntKind.i64.wrap x.f = x.f := by rw [IntKind.wrap_i64]; unfold AtOk at hx; omega
  have w2 : IntKind.i64.wrap x.l = x.l := by rw [IntKind.wrap_i64]; unfold AtOk at hx; omega
  have w3 : IntKind.i64.wrap (x.f + x.l) = x.f + x.l := by rw [IntKind.wrap_i64]; unfold AtOk at hx; omega
  simp only [w1, w2, w3, List.length_map, e2]
  repeat' (first | with_reducible exact True.intro | with_reducible refine And.intro ?_ ?_ | with_reducible refine condP_dec (fun _ => ?_) (fun _ => ?_) | with_reducible refine condP_eq (fun _ => ?_) (fun _ => ?_) | with_reducible refine condP_ne (fun _ => ?_) (fun _ => ?_) | with_reducible refine condP_not (condP_dec (fun _ => ?_) (fun _ => ?_)) | with_reducible refine condP_not (condP_eq (fun _ => ?_) (fun _ => ?_)) | with_reducible refine condP_not (condP_intro (fun _ => ?_) (fun _ => ?_)) | with_reducible refine condP_intro (fun _ => ?_) (fun _ => ?_))
  all_goals first | exact hA | exact hB | exact k1 | exact k2 | exact k3 | exact k4 | exact k5 | exact k6 | exact k7 | exact k8 | exact k9 | exact ka | exact n1 | exact n2 | exact n3 | exact n4 | exact n5 | exact s1 | exact s2 | exact s3 | exact aw7 | rfl | omega | exact dno (by omega) | exact dyes (by omega) | (refine congrArg D.bool ?_; simp; done) | (refine congrArg D.bool ?_; simp; omega) | skip

set_option maxRecDepth 100000 in
set_option maxHeartbeats 1000000 in
theorem again6n (l m : List At) (h : l.length > 30 ∨ m.length > 30) (x : At) : FnOK Try.prog 6 ([.d (.sl (l.map atD)), .d (.sl (m.map atD)), .d (atD x)]) ([]) (.d (.bool true)) ([]) := by
  refine fnOK_wp (p := condP (decide ((↑(List.map atD l).length : Int) > (30 : Int))) ((D.bool (decide ((↑(List.map atD l).length : Int) > (30 : Int))) = D.bool true) ∧ ((D.bool true = D.bool true) ∧ ((FnOK Try.prog (7 : Nat) [] [] (AV.d (D.bool true)) []) ∧ ((AV.d (D.bool true) = AV.d (D.bool true)) ∧ (True))))) ((D.bool (decide ((↑(List.map atD l).length : Int) > (30 : Int))) = D.bool false) ∧ ((D.bool (decide ((↑(List.map atD m).length : Int) > (30 : Int))) = D.bool true) ∧ ((FnOK Try.prog (7 : Nat) [] [] (AV.d (D.bool true)) []) ∧ ((AV.d (D.bool true) = AV.d (D.bool true)) ∧ (True)))))) (h := {G := [(7, gYes)], H := [(1, [(7, .val (.bool true))])]}) (subs := []) (ws := []) (ρ := []) (by kernel_rfl) ?_
  simp only [List.length_map]
  repeat' (first | with_reducible exact True.intro | with_reducible refine And.intro ?_ ?_ | with_reducible refine condP_dec (fun _ => ?_) (fun _ => ?_) | with_reducible refine condP_eq (fun _ => ?_) (fun _ => ?_) | with_reducible refine condP_ne (fun _ => ?_) (fun _ => ?_) | with_reducible refine condP_not (condP_dec (fun _ => ?_) (fun _ => ?_)) | with_reducible refine condP_not (condP_eq (fun _ => ?_) (fun _ => ?_)) | with_reducible refine condP_not (condP_intro (fun _ => ?_) (fun _ => ?_)) | with_reducible refine condP_intro (fun _ => ?_) (fun _ => ?_))
  all_goals first | exact aw7 | rfl | (refine congrArg D.bool ?_; rw [decide_eq_true_eq]; omega) | exact dyes (by omega) | exact dno (by omega) | (exfalso; omega) | skip

theorem at_of {y : D} (h : ∃ ds, CK.hasL [.bool, .int .u8, .int .u8] ds ∧ (if true = true then y = .agg ds else ds = [y])) : ∃ a : At, y = atD a ∧ AtOk a := by
  obtain ⟨ds, rfl, h0⟩ := ckA h
  obtain ⟨d1, r1, rfl, g1, h1⟩ := hasL_cons h0
  obtain ⟨v1, rfl⟩ := has_bool g1
  obtain ⟨d2, r2, rfl, g2, h2⟩ := hasL_cons h1
  obtain ⟨v2, rfl, a2, b2⟩ := has_u8 g2
  obtain ⟨d3, r3, rfl, g3, h3⟩ := hasL_cons h2
  obtain ⟨v3, rfl, a3, b3⟩ := has_u8 g3
  obtain rfl := hasL_nil h3
  exact ⟨⟨v1, v2, v3⟩, rfl, ⟨a2, b2⟩, a3, b3⟩
theorem ats_of (x0 : D) (s0 : ∃ ds, CK.hasL [.sl true [.bool, .int .u8, .int .u8]] ds ∧ (if false = true then x0 = .agg ds else ds = [x0])) : ∃ l : List At, x0 = .sl (l.map atD) ∧ ∀ a ∈ l, AtOk a := by
  obtain ⟨K, rfl, -, h⟩ := has_slOf atD AtOk (ck1 s0) (fun y h => at_of h)
  exact ⟨K, rfl, h⟩
theorem num_bd (p : Int → Bool) : ∀ K : Nat, 0 ≤ num p K ∧ num p K ≤ K
  | 0 => by unfold num; omega
  | K + 1 => by
    have := num_bd p K
    unfold num
    split <;> omega
theorem ivalsAgain_ok (x0 : D) (s0 : ∃ ds, CK.hasL [.sl true [.bool, .int .u8, .int .u8]] ds ∧ (if false then x0 = .agg ds else ds = [x0])) (x1 : D) (s1 : ∃ ds, CK.hasL [.sl true [.bool, .int .u8, .int .u8]] ds ∧ (if false then x1 = .agg ds else ds = [x1])) (x2 : D) (s2 : ∃ ds, CK.hasL [.bool, .int .u8, .int .u8] ds ∧ (if true then x2 = .agg ds else ds = [x2])) :
    FnOK Try.prog 6 [.d x0, .d x1, .d x2] [] (.d (.bool true)) [] := by
  obtain ⟨l, rfl, hl⟩ := ats_of x0 s0
  obtain ⟨m, rfl, hm⟩ := ats_of x1 s1
  obtain ⟨x, rfl, hx⟩ := at_of s2
  by_cases h : l.length ≤ 30 ∧ m.length ≤ 30
  · have lw : ∀ (l : List At), (∀ a ∈ l, AtOk a) → ∀ j, Low 512 (addsF (l.take j)) := fun l hl j => adds_low _ (fun a ha => hl a (List.mem_of_mem_take ha)) (low_nil 512)
    have ls := lw l hl l.length
    have lo := lw m hm m.length
    rw [List.take_length] at ls lo
    have hA := loops_n (P := Try.prog) (k := 0) (c := loopN Try.prog 6 0) (e := .exit 0) (I := fun j => (I6 l m x (addsF (l.take j)) j).as 157) (by simp) l.length 0 (by omega) (fun j _ hj => by
      have hn := get_of hj
      have hlen := low_len (lw l hl j)
      have e : addsF (l.take (j + 1)) = rAdd (addsF (l.take j)) (atI l[j]) := by rw [take_snoc hn]; unfold addsF; rw [List.foldl_append]; rfl
      show Runs _ _ _ _ _ ((I6 l m x (addsF (l.take (j + 1))) (j + 1)).as _)
      rw [e]
      exact r6 l m h.1 x _ _ j _ hn (hl _ (get_mem hn)) (add11 _ (by omega) _)) (by simp only [List.take_length]; exact q6 l m x _)
    have hB := loops_n (P := Try.prog) (k := 0) (c := loopN Try.prog 6 1) (e := .exit 2) (I := fun j => (J6 m x (addsF l) (addsF (m.take j)) j).as 157) (by simp) m.length 0 (by omega) (fun j _ hj => by
      have hn := get_of hj
      have hlen := low_len (lw m hm j)
      have e : addsF (m.take (j + 1)) = rAdd (addsF (m.take j)) (atI m[j]) := by rw [take_snoc hn]; unfold addsF; rw [List.foldl_append]; rfl
      show Runs _ _ _ _ _ ((J6 m x (addsF l) (addsF (m.take (j + 1))) (j + 1)).as _)
      rw [e]
      exact rb6 m h.2 x _ _ _ j _ hn (hm _ (get_mem hn)) (add11 _ (by omega) _)) (by simp only [List.take_length]; exact qb6 m x _ _)
    generalize addsF l = s at *
    generalize addsF m = o at *
    obtain ⟨my, hy⟩ := atI_may hx
    have la := low_add ls my hy
    have lb := low_meet ls lo
    have lc := low_cut ls my
    have lz := low_add (low_nil 512) my hy
    have lh := low_meet ls lz
    have g1 := low_len ls
    have g2 := low_len lo
    have g3 := low_len la
    have g4 := low_len lb
    have g5 := low_len lc
    have g6 := low_len lz
    have g7 := low_len lh
    have k4 := add11 (rCut s (atI x)) (by omega) (atI x)
    rw [again_add ls.ok my] at k4
    have k5 := add11 (rAdd s (atI x)) (by omega) (atI x)
    rw [twice_add ls.ok my] at k5
    have k6 : FnOK _ _ _ _ (.d (.bool (rHolds (rAdd s (atI x)) (atI x)))) _ := holds26 _ (atI x) _ _ (find41 _ (by omega) (atI x).1)
    rw [holds_add ls.ok my] at k6
    have k7 := meet17 o s (by omega) (by omega)
    rw [meet_comm lo.ok ls.ok] at k7
    have k8 := meet17 s s (by omega) (by omega)
    rw [meet_self ls.ok] at k8
    have e1 := count_meet ls lo
    have e2 := count_parts ls my hy
    have e3 := num_bd (has s) 512
    rw [← low_count ls] at e3
    refine again6 l m h.1 h.2 x hx s o _ _ _ _ _ _ _ _ _ _ hA hB (add11 s (by omega) _) (meet17 s o (by omega) (by omega)) (cut13 s (by omega) _) k4 k5 k6 k7 k8 (add11 [] (by decide) _) (meet17 s _ (by omega) (by omega)) (count21 _ (by omega)) (count21 s (by omega)) (count21 o (by omega)) (count21 _ (by omega)) (count21 _ (by omega)) e1 ?_ (by omega) (by omega) (by omega)
    rw [e2, IntKind.wrap_i64]
    omega
  · exact again6n l m (by omega) x
end Go.Proofs.Ytkfiojolgkfbcaa
