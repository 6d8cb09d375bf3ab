/-
laws 11: SendqEnds. No condition beyond the statement's own.
-/
import Derived.Test.YtfllhedkgeljaaaS23
set_option linter.unusedSimpArgs false
set_option linter.unusedVariables false
namespace Go.Proofs.Ytfllhedkgeljaaa
open Sx Go.RowKit C06

def I6 (l : List De) (s : Sq) (j : Nat) : St := ⟨[(0, .d (.sl (l.map deD))), (3, .ptr 0 0), (4, .d (.int .i64 j))], [(0, sqB s)]⟩
def zer (n : Nat) : List UInt8 := List.replicate n 0
set_option maxRecDepth 100000 in
set_option maxHeartbeats 1000000 in
theorem r6a (l : List De) (hl : l.length ≤ 40) (s s1 x : Sq) (j : Nat) (a : De) (hn : l[j]? = some a) (ha : DeOk a) (m : Int) (hm : a.k % 5 = m) (kd : FnOK Try.prog 31 [.d (sqD s1), .d (deD a), .d (.int .i64 j)] [] (.d (sqD x)) []) (hs : s1 = s) (hm0 : m ≠ 0) (kw hz cv : True) : Runs Try.prog 0 (loopN Try.prog 6 0) (St.as (I6 l s j) 134) (.normal) (St.as (I6 l x (j+1)) 134) := by
  refine round_wp (p := condP (decide ((↑j : Int) < (↑(List.map deD l).length : Int))) (((0 : Int) ≤ (↑j : Int)) ∧ (((List.map deD l)[(↑j : Int).toNat]? = some (D.agg [D.int .u8 a.k, D.int .u8 a.n, D.int .u8 a.p])) ∧ ((D.int .u8 (a.k.tmod (5 : Int)) = D.int .u8 m) ∧ (((5 : Int) ≠ (0 : Int)) ∧ ((D.bool (m == (0 : Int)) = D.bool false) ∧ (((0 : Int) ≤ (↑j : Int)) ∧ (((List.map deD l)[(↑j : Int).toNat]? = some (D.agg [D.int .u8 a.k, D.int .u8 a.n, D.int .u8 a.p])) ∧ ((FnOK Try.prog 31 [AV.d (.agg [D.int .i64 s.b, D.str s.d, D.int .i64 s.n, D.sl (List.map ckD s.fl), D.sl (List.map ivD s.cm)]), AV.d (.agg [D.int .u8 a.k, D.int .u8 a.n, D.int .u8 a.p]), AV.d (.int .i64 (↑j : Int))] [] (AV.d (.agg [D.int .i64 x.b, D.str x.d, D.int .i64 x.n, D.sl (List.map ckD x.fl), D.sl (List.map ivD x.cm)])) []) ∧ ((AV.d (.sl (List.map deD l)) = AV.d (.sl (List.map deD l))) ∧ ((AV.ptr 0 0 = AV.ptr 0 0) ∧ ((AV.d (.int .i64 (IntKind.i64.wrap ((↑j : Int) + (1 : Int)))) = AV.d (.int .i64 (↑(j + 1) : Int))) ∧ ((Ob.box [AV.d (.int .i64 x.b), AV.d (.str x.d), AV.d (.int .i64 x.n), AV.d (.sl (List.map ckD x.fl)), AV.d (.sl (List.map ivD x.cm))] = Ob.box [AV.d (.int .i64 x.b), AV.d (.str x.d), AV.d (.int .i64 x.n), AV.d (.sl (List.map ckD x.fl)), AV.d (.sl (List.map ivD x.cm))]) ∧ (True))))))))))))) (False)) (h := {els := [(23, .el (deD a)), (32, .el (deD a)), (45, .el (deD a))], H := [(7, [(5, .val (.int .u8 m)), (6, .val (.bool false))]), (9, [(6, .call [] (.d (sqD x)) [])])]}) (subs := []) (ws := []) (ρ := []) (by kernel_rfl) ?_
  subst hs
  have hj := get_lt hn
  have hi := inc_i64 (j := j) (by omega)
  obtain ⟨⟨a1, a2⟩, ⟨a3, a4⟩, a5, a6⟩ := ha
  have e4 : a.k.tmod 5 = m := by rw [Int.tmod_eq_emod_of_nonneg (by omega)]; exact hm
  have e5 : a.n.tmod 60 = a.n % 60 := Int.tmod_eq_emod_of_nonneg (by omega)
  try simp only [hi, e4]
  simp only [List.length_map]
  refine condP_t (by rw [decide_eq_true_eq]; omega) ?_
  repeat' (with_reducible first | exact True.intro | apply And.intro | (first | apply zA | apply zB | apply zC | apply zD | apply zE | apply zF | apply zG) <;> intro)
  all_goals first | exact kd | exact kw | exact el_map hn rfl | rfl | omega | exact congrArg (D.int .i64) hz | exact cv | (refine congrArg D.bool ?_; simp; omega) | (refine congrArg D.bool ?_; rw [beq_eq_false_iff_ne]; omega) | (refine congrArg D.bool ?_; rw [beq_iff_eq]; omega) | skip

set_option maxRecDepth 100000 in
set_option maxHeartbeats 1000000 in
theorem r6b (l : List De) (hl : l.length ≤ 40) (s s1 x : Sq) (j : Nat) (a : De) (hn : l[j]? = some a) (ha : DeOk a) (m : Int) (hm : a.k % 5 = m) (kd : FnOK Try.prog 31 [.d (sqD s1), .d (deD a), .d (.int .i64 j)] [] (.d (sqD x)) []) (k : Int) (n : Nat) (hnb : n ≤ 60) (hz : IntKind.i64.wrap (a.n.tmod 60) = n) (hm0 : m = 0) (cv : List.replicate n (D.int .u8 0) = (zer n).map byteD) (kw : FnOK Try.prog 10 [.d (sqD s), .d (.str (zer n))] [] (.tup [.d (sqD s1), .d (.int .i64 k)]) []) : Runs Try.prog 0 (loopN Try.prog 6 0) (St.as (I6 l s j) 134) (.normal) (St.as (I6 l x (j+1)) 134) := by
  refine round_wp (p := condP (decide ((↑j : Int) < (↑(List.map deD l).length : Int))) (((0 : Int) ≤ (↑j : Int)) ∧ (((List.map deD l)[(↑j : Int).toNat]? = some (D.agg [D.int .u8 a.k, D.int .u8 a.n, D.int .u8 a.p])) ∧ ((D.int .u8 (a.k.tmod (5 : Int)) = D.int .u8 m) ∧ (((5 : Int) ≠ (0 : Int)) ∧ ((D.bool (m == (0 : Int)) = D.bool true) ∧ (((0 : Int) ≤ (↑j : Int)) ∧ (((List.map deD l)[(↑j : Int).toNat]? = some (D.agg [D.int .u8 a.k, D.int .u8 a.n, D.int .u8 a.p])) ∧ (((60 : Int) ≠ (0 : Int)) ∧ ((D.int .i64 (IntKind.i64.wrap (a.n.tmod (60 : Int))) = D.int .i64 (↑n : Int)) ∧ (((↑n : Int) = (↑n : Int)) ∧ (((0 : Int) ≤ (↑n : Int) ∧ (↑n : Int) ≤ (9223372036854775807 : Int)) ∧ (((1 : Int) * (↑n : Int) ≤ (281474976710656 : Int)) ∧ ((List.replicate (↑n : Int).toNat (D.int .u8 (0 : Int)) = List.map byteD (zer n)) ∧ ((FnOK Try.prog 10 [AV.d (.agg [D.int .i64 s.b, D.str s.d, D.int .i64 s.n, D.sl (List.map ckD s.fl), D.sl (List.map ivD s.cm)]), AV.d (.str (zer n))] [] (AV.tup [AV.d (.agg [D.int .i64 s1.b, D.str s1.d, D.int .i64 s1.n, D.sl (List.map ckD s1.fl), D.sl (List.map ivD s1.cm)]), AV.d (.int .i64 k)]) []) ∧ (((0 : Int) ≤ (↑j : Int)) ∧ (((List.map deD l)[(↑j : Int).toNat]? = some (D.agg [D.int .u8 a.k, D.int .u8 a.n, D.int .u8 a.p])) ∧ ((FnOK Try.prog 31 [AV.d (.agg [D.int .i64 s1.b, D.str s1.d, D.int .i64 s1.n, D.sl (List.map ckD s1.fl), D.sl (List.map ivD s1.cm)]), AV.d (.agg [D.int .u8 a.k, D.int .u8 a.n, D.int .u8 a.p]), AV.d (.int .i64 (↑j : Int))] [] (AV.d (.agg [D.int .i64 x.b, D.str x.d, D.int .i64 x.n, D.sl (List.map ckD x.fl), D.sl (List.map ivD x.cm)])) []) ∧ ((AV.d (.sl (List.map deD l)) = AV.d (.sl (List.map deD l))) ∧ ((AV.ptr 0 0 = AV.ptr 0 0) ∧ ((AV.d (.int .i64 (IntKind.i64.wrap ((↑j : Int) + (1 : Int)))) = AV.d (.int .i64 (↑(j + 1) : Int))) ∧ ((Ob.box [AV.d (.int .i64 x.b), AV.d (.str x.d), AV.d (.int .i64 x.n), AV.d (.sl (List.map ckD x.fl)), AV.d (.sl (List.map ivD x.cm))] = Ob.box [AV.d (.int .i64 x.b), AV.d (.str x.d), AV.d (.int .i64 x.n), AV.d (.sl (List.map ckD x.fl)), AV.d (.sl (List.map ivD x.cm))]) ∧ (True)))))))))))))))))))))) (False)) (h := {els := [(23, .el (deD a)), (32, .el (deD a)), (45, .el (deD a))], H := [(7, [(5, .val (.int .u8 m)), (6, .val (.bool true))]), (8, [(7, .val (.int .i64 n)), (9, .str (zer n)), (10, .call [] (.tup [.d (sqD s1), .d (.int .i64 k)]) [])]), (9, [(6, .call [] (.d (sqD x)) [])])]}) (subs := []) (ws := []) (ρ := []) (by kernel_rfl) ?_
  have hj := get_lt hn
  have hi := inc_i64 (j := j) (by omega)
  obtain ⟨⟨a1, a2⟩, ⟨a3, a4⟩, a5, a6⟩ := ha
  have e4 : a.k.tmod 5 = m := by rw [Int.tmod_eq_emod_of_nonneg (by omega)]; exact hm
  have e5 : a.n.tmod 60 = a.n % 60 := Int.tmod_eq_emod_of_nonneg (by omega)
  try simp only [hi, e4]
  simp only [List.length_map]
  refine condP_t (by rw [decide_eq_true_eq]; omega) ?_
  repeat' (with_reducible first | exact True.intro | apply And.intro | (first | apply zA | apply zB | apply zC | apply zD | apply zE | apply zF | apply zG) <;> intro)
  all_goals first | exact kd | exact kw | exact el_map hn rfl | rfl | omega | exact congrArg (D.int .i64) hz | exact cv | (refine congrArg D.bool ?_; simp; omega) | (refine congrArg D.bool ?_; rw [beq_eq_false_iff_ne]; omega) | (refine congrArg D.bool ?_; rw [beq_iff_eq]; omega) | skip

set_option maxRecDepth 100000 in
set_option maxHeartbeats 1000000 in
theorem q6 (l : List De) (s : Sq) : Runs Try.prog 0 (loopN Try.prog 6 0) (St.as (I6 l s l.length) 134) (.exit 0) (St.as (I6 l s l.length) 134) := by
  refine round_wp (p := condP (decide ((↑l.length : Int) < (↑(List.map deD l).length : Int))) (False) ((AV.d (.sl (List.map deD l)) = AV.d (.sl (List.map deD l))) ∧ ((AV.ptr 0 0 = AV.ptr 0 0) ∧ ((AV.d (.int .i64 (↑l.length : Int)) = AV.d (.int .i64 (↑l.length : Int))) ∧ ((Ob.box [AV.d (.int .i64 s.b), AV.d (.str s.d), AV.d (.int .i64 s.n), AV.d (.sl (List.map ckD s.fl)), AV.d (.sl (List.map ivD s.cm))] = Ob.box [AV.d (.int .i64 s.b), AV.d (.str s.d), AV.d (.int .i64 s.n), AV.d (.sl (List.map ckD s.fl)), AV.d (.sl (List.map ivD s.cm))]) ∧ (True)))))) (h := {}) (subs := []) (ws := []) (ρ := []) (by kernel_rfl) ?_
  repeat' (with_reducible first | exact True.intro | apply And.intro | (first | apply zA | apply zB | apply zC | apply zD | apply zE | apply zF | apply zG) <;> intro)
  all_goals (try simp only [List.length_map, AV.d.injEq, D.int.injEq, D.bool.injEq, D.str.injEq, D.sl.injEq, true_and, and_true, decide_eq_true_eq, decide_eq_false_iff_not, decide_eq_decide])
  all_goals (try simp only [List.length_map] at *)
  all_goals first | rfl | omega

/-! ### One by one -/
def J6 (s : Sq) (z i : Nat) : St := ⟨[(3, .ptr 0 0), (5, .d (.int .i64 z)), (6, .d (.int .i64 i))], [(0, sqB s)]⟩
set_option maxRecDepth 100000 in
set_option maxHeartbeats 1000000 in
theorem g6 (s x y : Sq) (z i : Nat) (hz : z ≤ 1000000) (hi : i < z) (hd : s.d ≠ []) (c : Ck) (hc : 0 ≤ c.f ∧ c.f < c.t ∧ c.t ≤ 1000000) (t : List UInt8) (ht : (t.length : Int) = c.t - c.f) (r : Rp) (hr : r.a = t.length) (kp : FnOK Try.prog 12 [.d (sqD s), .d (.int .i64 (100 + i : Int)), .d (.int .i64 4096), .d (.int .i64 1099511627776)] [] (.tup [.d (sqD x), .d (ckD c), .d (.str t)]) []) (kl : FnOK Try.prog 32 [.d (.sl (([] : List Iv).map ivD)), .d (ivD (c.f, c.t))] [] (.d (.sl ([(c.f, c.t)].map ivD))) []) (ka : FnOK Try.prog 20 [.d (sqD x), .d (.int .i64 x.b), .d (.sl ([(c.f, c.t)].map ivD)), .d (.int .i64 (100 + i : Int))] [] (.tup [.d (sqD y), .d (rpD r)]) []) : Runs Try.prog 0 (loopN Try.prog 6 1) (St.as (J6 s z i) 134) (.normal) (St.as (J6 y z (i+1)) 134) := by
  refine round_wp (p := (D.bool (decide ((↑i : Int) < (↑z : Int))) = D.bool true) ∧ ((D.bool true = D.bool true) ∧ (((D.bool !s.d == []) = D.bool true) ∧ ((D.int .i64 (IntKind.i64.wrap ((100 : Int) + (↑i : Int))) = D.int .i64 ((100 : Int) + (↑i : Int))) ∧ ((FnOK Try.prog 12 [AV.d (.agg [D.int .i64 s.b, D.str s.d, D.int .i64 s.n, D.sl (List.map ckD s.fl), D.sl (List.map ivD s.cm)]), AV.d (.int .i64 ((100 : Int) + (↑i : Int))), AV.d (.int .i64 (4096 : Int)), AV.d (.int .i64 (1099511627776 : Int))] [] (AV.tup [AV.d (.agg [D.int .i64 x.b, D.str x.d, D.int .i64 x.n, D.sl (List.map ckD x.fl), D.sl (List.map ivD x.cm)]), AV.d (.agg [D.int .i64 c.f, D.int .i64 c.t, D.int .i64 c.s, D.int .i64 c.r, D.bool c.l]), AV.d (.str t)]) []) ∧ ((D.bool (t == []) = D.bool false) ∧ ((D.bool false = D.bool false) ∧ ((D.bool (decide (c.t ≤ c.f)) = D.bool false) ∧ ((D.bool false = D.bool false) ∧ ((D.bool ((↑t.length : Int) != IntKind.i64.wrap (c.t - c.f)) = D.bool false) ∧ ((FnOK Try.prog 32 [AV.d (.sl []), AV.d (.agg [D.int .i64 c.f, D.int .i64 c.t])] [] (AV.d (.sl [D.agg [D.int .i64 (c.f, c.t).fst, D.int .i64 (c.f, c.t).snd]])) []) ∧ ((D.int .i64 (IntKind.i64.wrap ((100 : Int) + (↑i : Int))) = D.int .i64 ((100 : Int) + (↑i : Int))) ∧ ((FnOK Try.prog 20 [AV.d (.agg [D.int .i64 x.b, D.str x.d, D.int .i64 x.n, D.sl (List.map ckD x.fl), D.sl (List.map ivD x.cm)]), AV.d (.int .i64 x.b), AV.d (.sl [D.agg [D.int .i64 (c.f, c.t).fst, D.int .i64 (c.f, c.t).snd]]), AV.d (.int .i64 ((100 : Int) + (↑i : Int)))] [] (AV.tup [AV.d (.agg [D.int .i64 y.b, D.str y.d, D.int .i64 y.n, D.sl (List.map ckD y.fl), D.sl (List.map ivD y.cm)]), AV.d (.agg [D.int .i64 r.a, D.int .i64 r.s, D.bool r.l])]) []) ∧ ((D.bool (r.a != (↑t.length : Int)) = D.bool false) ∧ ((AV.ptr 0 0 = AV.ptr 0 0) ∧ ((AV.d (.int .i64 (↑z : Int)) = AV.d (.int .i64 (↑z : Int))) ∧ ((AV.d (.int .i64 (IntKind.i64.wrap ((↑i : Int) + (1 : Int)))) = AV.d (.int .i64 (↑(i + 1) : Int))) ∧ ((Ob.box [AV.d (.int .i64 y.b), AV.d (.str y.d), AV.d (.int .i64 y.n), AV.d (.sl (List.map ckD y.fl)), AV.d (.sl (List.map ivD y.cm))] = Ob.box [AV.d (.int .i64 y.b), AV.d (.str y.d), AV.d (.int .i64 y.n), AV.d (.sl (List.map ckD y.fl)), AV.d (.sl (List.map ivD y.cm))]) ∧ (True))))))))))))))))))) (h := {H := [(13, [(2, .val (.bool true)), (6, .val (.bool true))]), (15, [(2, .val (.int .i64 (100 + i : Int))), (3, .call [] (.tup [.d (sqD x), .d (ckD c), .d (.str t)]) [])]), (16, [(1, .val (.bool false)), (7, .val (.bool false)), (17, .val (.bool false))]), (18, [(8, .call [] (.d (.sl ([(c.f, c.t)].map ivD))) []), (10, .val (.int .i64 (100 + i : Int))), (11, .call [] (.tup [.d (sqD y), .d (rpD r)]) [])]), (19, [(4, .val (.bool false))])]}) (subs := []) (ws := []) (ρ := []) (by kernel_rfl) ?_
  have hi2 := inc_i64 (j := i) (by omega)
  have e1 : IntKind.i64.wrap (100 + (i : Int)) = 100 + i := wrap_in (by omega) (by omega)
  have e2 : IntKind.i64.wrap (c.t - c.f) = c.t - c.f := wrap_in (by omega) (by omega)
  have hne : t ≠ [] := fun e => by rw [e] at ht; simp at ht; omega
  try simp only [hi2, e1, e2]
  repeat' (with_reducible first | exact True.intro | apply And.intro | (first | apply zA | apply zB | apply zC | apply zD | apply zE | apply zF | apply zG) <;> intro)
  all_goals first | exact kp | exact kl | exact ka | rfl | omega | exact dyes (by omega) | exact dno (by omega) | (refine congrArg D.bool ?_; simp [hd]; done) | (refine congrArg D.bool ?_; simp [hne]; done) | (refine congrArg D.bool ?_; simp; omega) | (refine congrArg D.bool ?_; simp [hr]; done) | skip

set_option maxRecDepth 100000 in
set_option maxHeartbeats 1000000 in
theorem t6 (s : Sq) (z i : Nat) (h : ¬(i < z ∧ s.d ≠ [])) : Runs Try.prog 0 (loopN Try.prog 6 1) (St.as (J6 s z i) 134) (.exit 2) (St.as (J6 s z i) 134) := by
  refine round_wp (p := condP (decide ((↑i : Int) < (↑z : Int))) ((D.bool (decide ((↑i : Int) < (↑z : Int))) = D.bool true) ∧ (((D.bool !s.d == []) = D.bool false) ∧ ((AV.ptr 0 0 = AV.ptr 0 0) ∧ ((AV.d (.int .i64 (↑z : Int)) = AV.d (.int .i64 (↑z : Int))) ∧ ((AV.d (.int .i64 (↑i : Int)) = AV.d (.int .i64 (↑i : Int))) ∧ ((Ob.box [AV.d (.int .i64 s.b), AV.d (.str s.d), AV.d (.int .i64 s.n), AV.d (.sl (List.map ckD s.fl)), AV.d (.sl (List.map ivD s.cm))] = Ob.box [AV.d (.int .i64 s.b), AV.d (.str s.d), AV.d (.int .i64 s.n), AV.d (.sl (List.map ckD s.fl)), AV.d (.sl (List.map ivD s.cm))]) ∧ (True))))))) ((D.bool (decide ((↑i : Int) < (↑z : Int))) = D.bool false) ∧ ((D.bool false = D.bool false) ∧ ((AV.ptr 0 0 = AV.ptr 0 0) ∧ ((AV.d (.int .i64 (↑z : Int)) = AV.d (.int .i64 (↑z : Int))) ∧ ((AV.d (.int .i64 (↑i : Int)) = AV.d (.int .i64 (↑i : Int))) ∧ ((Ob.box [AV.d (.int .i64 s.b), AV.d (.str s.d), AV.d (.int .i64 s.n), AV.d (.sl (List.map ckD s.fl)), AV.d (.sl (List.map ivD s.cm))] = Ob.box [AV.d (.int .i64 s.b), AV.d (.str s.d), AV.d (.int .i64 s.n), AV.d (.sl (List.map ckD s.fl)), AV.d (.sl (List.map ivD s.cm))]) ∧ (True)))))))) (h := {H := [(13, [(7, .val (.bool false))])]}) (subs := []) (ws := []) (ρ := []) (by kernel_rfl) ?_
  repeat' (with_reducible first | exact True.intro | apply And.intro | (first | apply zA | apply zB | apply zC | apply zD | apply zE | apply zF | apply zG) <;> intro)
  all_goals first | rfl | omega | (refine congrArg D.bool ?_; simp_all; done) | (simp_all; done) | (exfalso; simp_all; omega) | skip

set_option maxRecDepth 100000 in
set_option maxHeartbeats 1000000 in
theorem en6 (l : List De) (hl : l.length ≤ 40) (s e f : Sq) (i : Nat) (q : Bool) (hd : f.d = []) (hf : f.fl = []) (hL : Loops Try.prog 0 (loopN Try.prog 6 0) ((I6 l v0 0).as 134) (.exit 0) ((I6 l s l.length).as 134)) (ke : FnOK Try.prog 14 [.d (sqD s)] [] (.tup [.d (sqD e), .d (.bool q)]) []) (hM : Loops Try.prog 0 (loopN Try.prog 6 1) ((J6 e e.d.length 0).as 134) (.exit 2) ((J6 f e.d.length i).as 134)) (kc : FnOK Try.prog 28 [.d (sqD f)] [] (.d (.int .i64 0)) []) : FnOK Try.prog 6 ([.d (.sl (l.map deD))]) ([]) (.d (.bool true)) ([]) := by
  refine fnOK_wp (p := (D.bool (decide ((↑(List.map deD l).length : Int) > (40 : Int))) = D.bool false) ∧ ((FnOK Try.prog 30 [] [] (AV.d (.agg [D.int .i64 (0 : Int), D.str [], D.int .i64 (0 : Int), D.sl [], D.sl []])) []) ∧ ((AV.d (.sl (List.map deD l)) = AV.d (.sl (List.map deD l))) ∧ ((AV.ptr 1024 0 = AV.ptr 1024 0) ∧ ((AV.d (.int .i64 (0 : Int)) = AV.d (.int .i64 (0 : Int))) ∧ ((Ob.box [AV.d (.int .i64 (0 : Int)), AV.d (.str []), AV.d (.int .i64 (0 : Int)), AV.d (.sl []), AV.d (.sl [])] = Ob.box [AV.d (.int .i64 (0 : Int)), AV.d (.str []), AV.d (.int .i64 (0 : Int)), AV.d (.sl []), AV.d (.sl [])]) ∧ ((LoopsS Try.prog 0 (loopN Try.prog 6 0) (I6 l v0 0) (Exit.exit 0) (I6 l s l.length) 134) ∧ ((FnOK Try.prog 14 [AV.d (.agg [D.int .i64 s.b, D.str s.d, D.int .i64 s.n, D.sl (List.map ckD s.fl), D.sl (List.map ivD s.cm)])] [] (AV.tup [AV.d (.agg [D.int .i64 e.b, D.str e.d, D.int .i64 e.n, D.sl (List.map ckD e.fl), D.sl (List.map ivD e.cm)]), AV.d (.bool q)]) []) ∧ ((AV.ptr 0 0 = AV.ptr 0 0) ∧ ((AV.d (.int .i64 (↑e.d.length : Int)) = AV.d (.int .i64 (↑e.d.length : Int))) ∧ ((AV.d (.int .i64 (0 : Int)) = AV.d (.int .i64 (0 : Int))) ∧ ((Ob.box [AV.d (.int .i64 e.b), AV.d (.str e.d), AV.d (.int .i64 e.n), AV.d (.sl (List.map ckD e.fl)), AV.d (.sl (List.map ivD e.cm))] = Ob.box [AV.d (.int .i64 e.b), AV.d (.str e.d), AV.d (.int .i64 e.n), AV.d (.sl (List.map ckD e.fl)), AV.d (.sl (List.map ivD e.cm))]) ∧ ((LoopsS Try.prog 0 (loopN Try.prog 6 1) (J6 e e.d.length 0) (Exit.exit 2) (J6 f e.d.length i) 134) ∧ ((D.bool (f.d == []) = D.bool true) ∧ ((D.bool true = D.bool true) ∧ ((D.bool ((↑(List.map ckD f.fl).length : Int) == (0 : Int)) = D.bool true) ∧ ((D.bool true = D.bool true) ∧ ((FnOK Try.prog 28 [AV.d (.agg [D.int .i64 f.b, D.str f.d, D.int .i64 f.n, D.sl (List.map ckD f.fl), D.sl (List.map ivD f.cm)])] [] (AV.d (.int .i64 (0 : Int))) []) ∧ ((D.bool true = D.bool true) ∧ ((FnOK Try.prog 8 [] [] (AV.d (.bool true)) []) ∧ ((AV.d (.bool true) = AV.d (.bool true)) ∧ (True)))))))))))))))))))))) (h := {chain := true, H := [(1, [(2, .val (.bool false))]), (3, [(0, .call [] (.d (sqD v0)) [])]), (10, [(1, .call [] (.tup [.d (sqD e), .d (.bool q)]) [])]), (22, [(2, .val (.bool true)), (7, .val (.bool true)), (11, .call [] (.d (.int .i64 0)) [])])], G := [(8, gYes)]}) (subs := [⟨[], [], I6 l v0 0, .exit 0, I6 l s l.length⟩, ⟨[], [], J6 e e.d.length 0, .exit 2, J6 f e.d.length i⟩]) (ws := []) (ρ := []) (by kernel_rfl) ?_
  have n0 := new30 trivial trivial
  simp only [List.length_map]
  repeat' (with_reducible first | exact True.intro | apply And.intro | (first | apply zA | apply zB | apply zC | apply zD | apply zE | apply zF | apply zG) <;> intro)
  all_goals first | exact hL | exact hM | exact ke | exact kc | exact n0 | exact aw8 | rfl | omega | exact dno (by omega) | (refine congrArg D.bool ?_; simp [hd]; done) | (refine congrArg D.bool ?_; simp [hf]; done) | skip

set_option maxRecDepth 100000 in
set_option maxHeartbeats 1000000 in
theorem en6z (l : List De) (hl : ¬l.length ≤ 40) : FnOK Try.prog 6 ([.d (.sl (l.map deD))]) ([]) (.d (.bool true)) ([]) := by
  refine fnOK_wp (p := (D.bool (decide ((↑(List.map deD l).length : Int) > (40 : Int))) = D.bool true) ∧ ((FnOK Try.prog 8 [] [] (AV.d (.bool true)) []) ∧ ((AV.d (.bool true) = AV.d (.bool true)) ∧ (True)))) (h := {H := [(1, [(2, .val (.bool true))])], G := [(8, gYes)]}) (subs := []) (ws := []) (ρ := []) (by kernel_rfl) ?_
  simp only [List.length_map]
  repeat' (with_reducible first | exact True.intro | apply And.intro | (first | apply zA | apply zB | apply zC | apply zD | apply zE | apply zF | apply zG) <;> intro)
  all_goals first | exact aw8 | rfl | omega | exact dyes (by omega) | skip

theorem step6 (l : List De) (hl : l.length ≤ 40) (hx : ∀ a ∈ l, DeOk a) (s : Sq) (all : List UInt8) (h : KI s all) (hc : Cov s) (j : Nat) (hal : all.length ≤ 60 * j) (a : De) (hn : l[j]? = some a) :
    ∃ s' all', KI s' all' ∧ Cov s' ∧ all'.length ≤ 60 * (j + 1) ∧ Runs Try.prog 0 (loopN Try.prog 6 0) ((I6 l s j).as 134) .normal ((I6 l s' (j+1)).as 134) := by
  have hj := get_lt hn
  have ha := hx a (get_mem hn)
  have ha' := ha
  obtain ⟨⟨a1, a2⟩, ⟨a3, a4⟩, a5, a6⟩ := ha'
  have ok := h.sq
  have hlen := h.len
  have b0 := h.b0
  have bl := h.bl
  by_cases hm : a.k % 5 = 0
  · obtain ⟨n, hnn⟩ : ∃ n : Nat, a.n % 60 = n := ⟨(a.n % 60).toNat, by omega⟩
    have hz : IntKind.i64.wrap (a.n.tmod 60) = n := by rw [Int.tmod_eq_emod_of_nonneg a3, hnn]; exact wrap_in (by omega) (by omega)
    have hzl : (zer n).length = n := by unfold zer; rw [List.length_replicate]
    obtain ⟨k, k1, k2, k3, k4, k5, k6⟩ := ki_write h (x := zer n) (by omega)
    have kw := write10 s ok (zer n) (by omega)
    have hall : (all ++ (zer n).take k).length ≤ 60 * (j + 1) := by rw [List.length_append, List.length_take]; omega
    have hlen2 := k4.len
    have kc2 := cov_write hc (zer n)
    generalize (rWrite s (zer n)).1 = s1 at *
    have b02 := k4.b0
    have bl2 := k4.bl
    obtain ⟨d1, -, -, -⟩ := ki_done k4 a j (by omega)
    have kd := done31 s1 k4.sq (by omega) (by omega) ⟨b02, by omega⟩ a ha j
    have cv : List.replicate n (D.int .u8 0) = (zer n).map byteD := by unfold zer; rw [List.map_replicate]; rfl
    exact ⟨_, _, d1, cov_done k4 kc2 a j, hall, r6b l hl s s1 _ j a hn ha 0 hm kd _ n (by omega) hz rfl cv kw⟩
  · obtain ⟨d1, -, -, -⟩ := ki_done h a j (by omega)
    have kd := done31 s ok (by omega) (by omega) ⟨b0, by omega⟩ a ha j
    exact ⟨_, _, d1, cov_done h hc a j, by omega, r6a l hl s s _ j a hn ha _ rfl kd rfl hm trivial trivial trivial⟩
theorem loop6 (l : List De) (hl : l.length ≤ 40) (hx : ∀ a ∈ l, DeOk a) : ∀ (d j : Nat) (s : Sq) (all : List UInt8), j + d = l.length → KI s all → Cov s → all.length ≤ 60 * j → ∃ s' all', KI s' all' ∧ Cov s' ∧ all'.length ≤ 2400 ∧ Loops Try.prog 0 (loopN Try.prog 6 0) ((I6 l s j).as 134) (.exit 0) ((I6 l s' l.length).as 134)
  | 0, j, s, all, e, h, hc, hal => by
    obtain rfl : j = l.length := by omega
    exact ⟨s, all, h, hc, by omega, .out (q6 l s) (by simp)⟩
  | d + 1, j, s, all, e, h, hc, hal => by
    obtain ⟨s1, all1, h1, hc1, h2, h3⟩ := step6 l hl hx s all h hc j hal _ (get_of (show j < l.length by omega))
    obtain ⟨s2, all2, h4, hc4, h5, h6⟩ := loop6 l hl hx d (j + 1) s1 all1 (by omega) h1 hc1 h2
    exact ⟨s2, all2, h4, hc4, h5, .next h3 h6⟩
theorem ends6 (z : Nat) (hz : z ≤ 100000) (all : List UInt8) : ∀ (d i : Nat) (s : Sq), i + d = z → EI s all → left s ≤ d → ∃ (f : Sq) (k : Nat), EI f all ∧ f.d = [] ∧ Loops Try.prog 0 (loopN Try.prog 6 1) ((J6 s z i).as 134) (.exit 2) ((J6 f z k).as 134)
  | 0, i, s, e, h, hm => by
    have hd : s.d = [] := by
      by_cases g : s.d = []
      · exact g
      · have := left_pos h.ki g; omega
    exact ⟨s, i, h, hd, .out (t6 s z i (fun g => g.2 hd)) (by simp)⟩
  | d + 1, i, s, e, h, hm => by
    by_cases hd : s.d = []
    · exact ⟨s, i, h, hd, .out (t6 s z i (fun g => g.2 hd)) (by simp)⟩
    · have hk := h.ki
      have hp := pc_of h hd (now := 100 + i) (by omega)
      have kp := pick12 s hk.sq (100 + i) 4096 1099511627776 (by omega) (by omega)
      generalize rPick s (100 + i) 4096 1099511627776 = pk at *
      obtain ⟨x, c, t⟩ := pk
      have hp : Pc s x c t all := hp
      obtain ⟨e1, e2, e3⟩ := end_step hp (100 + i)
      have hx := hp.ki
      have hxl := hx.len
      obtain ⟨rest, hr, -⟩ := hp.fl
      have hF := row_mem hx.fl c (by rw [hr]; simp)
      have f1 := hF.f
      have f2 := hF.ft
      have f3 := hF.n
      have b0 := hx.b0
      have nd := hx.nd
      have al := hx.al
      have tl := hp.tl
      have ka := ack20 x hx.sq (by omega) (by omega) x.b [(c.f, c.t)] (by simp) (100 + i)
      have kl := add11 [] (by decide) (c.f, c.t)
      have ea : rAdd [] (c.f, c.t) = [(c.f, c.t)] := by
        have hm2 : mayB (c.f, c.t) = true := mayB_iff.2 ⟨⟨by show 0 ≤ c.f; omega, by show c.f ≤ _; omega⟩, by show 0 ≤ c.t; omega, by show c.t ≤ _; omega⟩
        obtain ⟨g1, g2⟩ := add_has ok_nil hm2
        exact ok_inj g1 (ok_one (x := (c.f, c.t)) (by show 0 ≤ c.f; omega) f2 (by show c.t ≤ _; omega)) fun n => by rw [g2, has_one]; rfl
      rw [ea] at kl
      have r := g6 s x _ z i (by omega) (by omega) hd c ⟨by omega, f2, by omega⟩ t tl _ e2 kp kl ka
      obtain ⟨f, k, i1, i2, i3⟩ := ends6 z hz all d (i + 1) _ (by omega) e1 (by omega)
      exact ⟨f, k, i1, i2, .next r i3⟩
theorem sendqEnds_ok (x0 : D) (s0 : ∃ ds, CK.hasL [.sl true [.int .u8, .int .u8, .int .u8]] ds ∧ (if false then x0 = .agg ds else ds = [x0])) :
    FnOK Try.prog 6 [.d x0] [] (.d (.bool true)) [] := by
  obtain ⟨l, rfl, hx⟩ := des_of x0 s0
  by_cases hl : l.length ≤ 40
  · obtain ⟨s, all, h1, h2, h3, hL⟩ := loop6 l hl hx l.length 0 v0 [] (by omega) ki0 cov0 (by simp)
    have hE : EI (rExpire s).1 all := ⟨ki_expire h1, cov_map h2 lose1 fun c => ⟨rfl, rfl⟩, fun c hc => by
      obtain ⟨c', h', rfl⟩ := List.mem_map.1 (show c ∈ s.fl.map lose1 from hc)
      rfl⟩
    have ke := expire14 s h1.sq
    generalize (rExpire s).1 = e at *
    have hdl := hE.ki.dl
    have hle : left e ≤ e.d.length := by
      unfold left
      have := (cnt_pos hE.ki.ok.srt).1
      have e9 : rCount e.cm = cnt e.cm := by unfold rCount; rw [if_pos (iChk_iff.2 hE.ki.ok)]
      omega
    obtain ⟨f, i, g1, g2, hM⟩ := ends6 e.d.length (by omega) all e.d.length 0 e (by omega) hE hle
    have kc := chk28 f (by have := g1.ki.len; omega) (by have := g1.ki.len; omega)
    rw [g1.ki.chk] at kc
    exact en6 l hl s e f i _ g2 (end_nil g1.ki g2) hL ke hM kc
  · exact en6z l hl
end Go.Proofs.Ytfllhedkgeljaaa
