/-
laws 11: one deed.
-/
import Derived.Test.YtfllhedkgeljaaaP2
set_option linter.unusedSimpArgs false
set_option linter.unusedVariables false
namespace Go.Proofs.Ytfllhedkgeljaaa
open Sx Go.RowKit C06

structure De where
  k : Int
  n : Int
  p : Int
def deD (a : De) : D := .agg [.int .u8 a.k, .int .u8 a.n, .int .u8 a.p]
def DeOk (a : De) : Prop := (0 ≤ a.k ∧ a.k < 256) ∧ (0 ≤ a.n ∧ a.n < 256) ∧ 0 ≤ a.p ∧ a.p < 256
def rDone (s : Sq) (a : De) (now : Int) : Sq :=
  if a.k % 5 = 1 then (rPick s now (40 + a.n) 1099511627776).1
  else if a.k % 5 = 2 then (rExpire s).1
  else if a.k % 5 = 3 then (rAck s (s.b + a.n) [] now).1
  else if a.k % 5 = 4 then (rAck s s.b [(s.b + a.p + 1, s.b + a.p + 1 + a.n)] now).1
  else s
set_option maxRecDepth 100000 in
set_option maxHeartbeats 1000000 in
theorem done31a (s s' : Sq) (a : De) (now : Int) (ha : DeOk a) (hb : 0 ≤ s.b ∧ s.b < 1000000) (m : Int) (hm : m = a.k % 5) (c : Ck) (t : List UInt8) (h : m = 1) (k1 : FnOK Try.prog 12 [.d (sqD s), .d (.int .i64 now), .d (.int .i64 (40 + a.n)), .d (.int .i64 1099511627776)] [] (.tup [.d (sqD s'), .d (ckD c), .d (.str t)]) []) : FnOK Try.prog 31 ([.d (sqD s), .d (deD a), .d (.int .i64 now)]) ([]) (.d (sqD s')) ([]) := by
  refine fnOK_wp (p := (D.int .u8 (a.k.tmod (5 : Int)) = D.int .u8 m) ∧ (((5 : Int) ≠ (0 : Int)) ∧ ((D.bool (m == (1 : Int)) = D.bool true) ∧ ((FnOK Try.prog 12 [AV.d (.agg [D.int .i64 s.b, D.str s.d, D.int .i64 s.n, D.sl (List.map ckD s.fl), D.sl (List.map ivD s.cm)]), AV.d (.int .i64 now), AV.d (.int .i64 (IntKind.i64.wrap ((40 : Int) + IntKind.i64.wrap a.n))), AV.d (.int .i64 (1099511627776 : Int))] [] (AV.tup [AV.d (.agg [D.int .i64 s'.b, D.str s'.d, D.int .i64 s'.n, D.sl (List.map ckD s'.fl), D.sl (List.map ivD s'.cm)]), AV.d (.agg [D.int .i64 c.f, D.int .i64 c.t, D.int .i64 c.s, D.int .i64 c.r, D.bool c.l]), AV.d (.str t)]) []) ∧ ((AV.d (.agg [D.int .i64 s'.b, D.str s'.d, D.int .i64 s'.n, D.sl (List.map ckD s'.fl), D.sl (List.map ivD s'.cm)]) = AV.d (.agg [D.int .i64 s'.b, D.str s'.d, D.int .i64 s'.n, D.sl (List.map ckD s'.fl), D.sl (List.map ivD s'.cm)])) ∧ (True)))))) (h := {H := [(2, [(2, .val (.int .u8 m))]), (3, [(0, .val (.bool true))]), (4, [(4, .call [] (.tup [.d (sqD s'), .d (ckD c), .d (.str t)]) [])])]}) (subs := []) (ws := []) (ρ := []) (by kernel_rfl) ?_
  obtain ⟨⟨a1, a2⟩, ⟨a3, a4⟩, a5, a6⟩ := ha
  have e1 : IntKind.i64.wrap a.n = a.n := wrap_in (by omega) (by omega)
  have e2 : IntKind.i64.wrap a.p = a.p := wrap_in (by omega) (by omega)
  have e3 : IntKind.i64.wrap (s.b + a.p) = s.b + a.p := wrap_in (by omega) (by omega)
  have e4 : IntKind.i64.wrap (s.b + a.n) = s.b + a.n := wrap_in (by omega) (by omega)
  have e5 : IntKind.i64.wrap (40 + a.n) = 40 + a.n := wrap_in (by omega) (by omega)
  have e6 : IntKind.i64.wrap (s.b + a.p + 1) = s.b + a.p + 1 := wrap_in (by omega) (by omega)
  have e7 : IntKind.i64.wrap (s.b + a.p + 1 + a.n) = s.b + a.p + 1 + a.n := wrap_in (by omega) (by omega)
  try simp only [e1, e2, e3, e4, e5, e6, e7]
  repeat' (with_reducible first | exact True.intro | apply And.intro | (first | apply zA | apply zB | apply zC | apply zD | apply zE | apply zF | apply zG) <;> intro)
  all_goals first | exact k1 | rfl | omega | (refine congrArg (D.int .u8) ?_; rw [Int.tmod_eq_emod_of_nonneg (by omega)]; omega) | (subst h; rfl) | (refine congrArg D.bool ?_; simp; omega) | skip

set_option maxRecDepth 100000 in
set_option maxHeartbeats 1000000 in
theorem done31b (s s' : Sq) (a : De) (now : Int) (ha : DeOk a) (hb : 0 ≤ s.b ∧ s.b < 1000000) (m : Int) (hm : m = a.k % 5) (q : Bool) (h : m = 2) (k1 : FnOK Try.prog 14 [.d (sqD s)] [] (.tup [.d (sqD s'), .d (.bool q)]) []) : FnOK Try.prog 31 ([.d (sqD s), .d (deD a), .d (.int .i64 now)]) ([]) (.d (sqD s')) ([]) := by
  refine fnOK_wp (p := (D.int .u8 (a.k.tmod (5 : Int)) = D.int .u8 m) ∧ (((5 : Int) ≠ (0 : Int)) ∧ ((D.bool (m == (1 : Int)) = D.bool false) ∧ ((D.bool (m == (2 : Int)) = D.bool true) ∧ ((FnOK Try.prog 14 [AV.d (.agg [D.int .i64 s.b, D.str s.d, D.int .i64 s.n, D.sl (List.map ckD s.fl), D.sl (List.map ivD s.cm)])] [] (AV.tup [AV.d (.agg [D.int .i64 s'.b, D.str s'.d, D.int .i64 s'.n, D.sl (List.map ckD s'.fl), D.sl (List.map ivD s'.cm)]), AV.d (.bool q)]) []) ∧ ((AV.d (.agg [D.int .i64 s'.b, D.str s'.d, D.int .i64 s'.n, D.sl (List.map ckD s'.fl), D.sl (List.map ivD s'.cm)]) = AV.d (.agg [D.int .i64 s'.b, D.str s'.d, D.int .i64 s'.n, D.sl (List.map ckD s'.fl), D.sl (List.map ivD s'.cm)])) ∧ (True))))))) (h := {H := [(2, [(2, .val (.int .u8 m))]), (3, [(0, .val (.bool false))]), (5, [(0, .val (.bool true))]), (6, [(1, .call [] (.tup [.d (sqD s'), .d (.bool q)]) [])])]}) (subs := []) (ws := []) (ρ := []) (by kernel_rfl) ?_
  obtain ⟨⟨a1, a2⟩, ⟨a3, a4⟩, a5, a6⟩ := ha
  have e1 : IntKind.i64.wrap a.n = a.n := wrap_in (by omega) (by omega)
  have e2 : IntKind.i64.wrap a.p = a.p := wrap_in (by omega) (by omega)
  have e3 : IntKind.i64.wrap (s.b + a.p) = s.b + a.p := wrap_in (by omega) (by omega)
  have e4 : IntKind.i64.wrap (s.b + a.n) = s.b + a.n := wrap_in (by omega) (by omega)
  have e5 : IntKind.i64.wrap (40 + a.n) = 40 + a.n := wrap_in (by omega) (by omega)
  have e6 : IntKind.i64.wrap (s.b + a.p + 1) = s.b + a.p + 1 := wrap_in (by omega) (by omega)
  have e7 : IntKind.i64.wrap (s.b + a.p + 1 + a.n) = s.b + a.p + 1 + a.n := wrap_in (by omega) (by omega)
  try simp only [e1, e2, e3, e4, e5, e6, e7]
  repeat' (with_reducible first | exact True.intro | apply And.intro | (first | apply zA | apply zB | apply zC | apply zD | apply zE | apply zF | apply zG) <;> intro)
  all_goals first | exact k1 | rfl | omega | (refine congrArg (D.int .u8) ?_; rw [Int.tmod_eq_emod_of_nonneg (by omega)]; omega) | (subst h; rfl) | (refine congrArg D.bool ?_; simp; omega) | skip

set_option maxRecDepth 100000 in
set_option maxHeartbeats 1000000 in
theorem done31c (s s' : Sq) (a : De) (now : Int) (ha : DeOk a) (hb : 0 ≤ s.b ∧ s.b < 1000000) (m : Int) (hm : m = a.k % 5) (r : Rp) (h : m = 3) (k1 : FnOK Try.prog 20 [.d (sqD s), .d (.int .i64 (s.b + a.n)), .d (.sl (([] : List Iv).map ivD)), .d (.int .i64 now)] [] (.tup [.d (sqD s'), .d (rpD r)]) []) : FnOK Try.prog 31 ([.d (sqD s), .d (deD a), .d (.int .i64 now)]) ([]) (.d (sqD s')) ([]) := by
  refine fnOK_wp (p := (D.int .u8 (a.k.tmod (5 : Int)) = D.int .u8 m) ∧ (((5 : Int) ≠ (0 : Int)) ∧ ((D.bool (m == (1 : Int)) = D.bool false) ∧ ((D.bool (m == (2 : Int)) = D.bool false) ∧ ((D.bool (m == (3 : Int)) = D.bool true) ∧ ((FnOK Try.prog 20 [AV.d (.agg [D.int .i64 s.b, D.str s.d, D.int .i64 s.n, D.sl (List.map ckD s.fl), D.sl (List.map ivD s.cm)]), AV.d (.int .i64 (IntKind.i64.wrap (s.b + IntKind.i64.wrap a.n))), AV.d (.sl []), AV.d (.int .i64 now)] [] (AV.tup [AV.d (.agg [D.int .i64 s'.b, D.str s'.d, D.int .i64 s'.n, D.sl (List.map ckD s'.fl), D.sl (List.map ivD s'.cm)]), AV.d (.agg [D.int .i64 r.a, D.int .i64 r.s, D.bool r.l])]) []) ∧ ((AV.d (.agg [D.int .i64 s'.b, D.str s'.d, D.int .i64 s'.n, D.sl (List.map ckD s'.fl), D.sl (List.map ivD s'.cm)]) = AV.d (.agg [D.int .i64 s'.b, D.str s'.d, D.int .i64 s'.n, D.sl (List.map ckD s'.fl), D.sl (List.map ivD s'.cm)])) ∧ (True)))))))) (h := {H := [(2, [(2, .val (.int .u8 m))]), (3, [(0, .val (.bool false))]), (5, [(0, .val (.bool false))]), (7, [(0, .val (.bool true))]), (8, [(6, .call [] (.tup [.d (sqD s'), .d (rpD r)]) [])])]}) (subs := []) (ws := []) (ρ := []) (by kernel_rfl) ?_
  obtain ⟨⟨a1, a2⟩, ⟨a3, a4⟩, a5, a6⟩ := ha
  have e1 : IntKind.i64.wrap a.n = a.n := wrap_in (by omega) (by omega)
  have e2 : IntKind.i64.wrap a.p = a.p := wrap_in (by omega) (by omega)
  have e3 : IntKind.i64.wrap (s.b + a.p) = s.b + a.p := wrap_in (by omega) (by omega)
  have e4 : IntKind.i64.wrap (s.b + a.n) = s.b + a.n := wrap_in (by omega) (by omega)
  have e5 : IntKind.i64.wrap (40 + a.n) = 40 + a.n := wrap_in (by omega) (by omega)
  have e6 : IntKind.i64.wrap (s.b + a.p + 1) = s.b + a.p + 1 := wrap_in (by omega) (by omega)
  have e7 : IntKind.i64.wrap (s.b + a.p + 1 + a.n) = s.b + a.p + 1 + a.n := wrap_in (by omega) (by omega)
  try simp only [e1, e2, e3, e4, e5, e6, e7]
  repeat' (with_reducible first | exact True.intro | apply And.intro | (first | apply zA | apply zB | apply zC | apply zD | apply zE | apply zF | apply zG) <;> intro)
  all_goals first | exact k1 | rfl | omega | (refine congrArg (D.int .u8) ?_; rw [Int.tmod_eq_emod_of_nonneg (by omega)]; omega) | (subst h; rfl) | (refine congrArg D.bool ?_; simp; omega) | skip

set_option maxRecDepth 100000 in
set_option maxHeartbeats 1000000 in
theorem done31d (s s' : Sq) (a : De) (now : Int) (ha : DeOk a) (hb : 0 ≤ s.b ∧ s.b < 1000000) (m : Int) (hm : m = a.k % 5) (r : Rp) (h : m = 4) (k1 : FnOK Try.prog 20 [.d (sqD s), .d (.int .i64 s.b), .d (.sl ([(s.b + a.p + 1, s.b + a.p + 1 + a.n)].map ivD)), .d (.int .i64 now)] [] (.tup [.d (sqD s'), .d (rpD r)]) []) : FnOK Try.prog 31 ([.d (sqD s), .d (deD a), .d (.int .i64 now)]) ([]) (.d (sqD s')) ([]) := by
  refine fnOK_wp (p := (D.int .u8 (a.k.tmod (5 : Int)) = D.int .u8 m) ∧ (((5 : Int) ≠ (0 : Int)) ∧ ((D.bool (m == (1 : Int)) = D.bool false) ∧ ((D.bool (m == (2 : Int)) = D.bool false) ∧ ((D.bool (m == (3 : Int)) = D.bool false) ∧ ((D.bool (m == (4 : Int)) = D.bool true) ∧ ((FnOK Try.prog 20 [AV.d (.agg [D.int .i64 s.b, D.str s.d, D.int .i64 s.n, D.sl (List.map ckD s.fl), D.sl (List.map ivD s.cm)]), AV.d (.int .i64 s.b), AV.d (.sl [D.agg [D.int .i64 (IntKind.i64.wrap (IntKind.i64.wrap (s.b + IntKind.i64.wrap a.p) + (1 : Int))), D.int .i64 (IntKind.i64.wrap (IntKind.i64.wrap (IntKind.i64.wrap (s.b + IntKind.i64.wrap a.p) + (1 : Int)) + IntKind.i64.wrap a.n))]]), AV.d (.int .i64 now)] [] (AV.tup [AV.d (.agg [D.int .i64 s'.b, D.str s'.d, D.int .i64 s'.n, D.sl (List.map ckD s'.fl), D.sl (List.map ivD s'.cm)]), AV.d (.agg [D.int .i64 r.a, D.int .i64 r.s, D.bool r.l])]) []) ∧ ((AV.d (.agg [D.int .i64 s'.b, D.str s'.d, D.int .i64 s'.n, D.sl (List.map ckD s'.fl), D.sl (List.map ivD s'.cm)]) = AV.d (.agg [D.int .i64 s'.b, D.str s'.d, D.int .i64 s'.n, D.sl (List.map ckD s'.fl), D.sl (List.map ivD s'.cm)])) ∧ (True))))))))) (h := {mid := [(10, [(12, [.freeze 1512])])], H := [(2, [(2, .val (.int .u8 m))]), (3, [(0, .val (.bool false))]), (5, [(0, .val (.bool false))]), (7, [(0, .val (.bool false))]), (9, [(0, .val (.bool true))]), (10, [(12, .call [] (.tup [.d (sqD s'), .d (rpD r)]) [])])]}) (subs := []) (ws := []) (ρ := []) (by kernel_rfl) ?_
  obtain ⟨⟨a1, a2⟩, ⟨a3, a4⟩, a5, a6⟩ := ha
  have e1 : IntKind.i64.wrap a.n = a.n := wrap_in (by omega) (by omega)
  have e2 : IntKind.i64.wrap a.p = a.p := wrap_in (by omega) (by omega)
  have e3 : IntKind.i64.wrap (s.b + a.p) = s.b + a.p := wrap_in (by omega) (by omega)
  have e4 : IntKind.i64.wrap (s.b + a.n) = s.b + a.n := wrap_in (by omega) (by omega)
  have e5 : IntKind.i64.wrap (40 + a.n) = 40 + a.n := wrap_in (by omega) (by omega)
  have e6 : IntKind.i64.wrap (s.b + a.p + 1) = s.b + a.p + 1 := wrap_in (by omega) (by omega)
  have e7 : IntKind.i64.wrap (s.b + a.p + 1 + a.n) = s.b + a.p + 1 + a.n := wrap_in (by omega) (by omega)
  try simp only [e1, e2, e3, e4, e5, e6, e7]
  repeat' (with_reducible first | exact True.intro | apply And.intro | (first | apply zA | apply zB | apply zC | apply zD | apply zE | apply zF | apply zG) <;> intro)
  all_goals first | exact k1 | rfl | omega | (refine congrArg (D.int .u8) ?_; rw [Int.tmod_eq_emod_of_nonneg (by omega)]; omega) | (subst h; rfl) | (refine congrArg D.bool ?_; simp; omega) | skip

set_option maxRecDepth 100000 in
set_option maxHeartbeats 1000000 in
theorem done31e (s s' : Sq) (a : De) (now : Int) (ha : DeOk a) (hb : 0 ≤ s.b ∧ s.b < 1000000) (m : Int) (hm : m = a.k % 5) (h : m = 0) (k1 : True) : FnOK Try.prog 31 ([.d (sqD s), .d (deD a), .d (.int .i64 now)]) ([]) (.d (sqD s)) ([]) := by
  refine fnOK_wp (p := (D.int .u8 (a.k.tmod (5 : Int)) = D.int .u8 m) ∧ (((5 : Int) ≠ (0 : Int)) ∧ ((D.bool (m == (1 : Int)) = D.bool false) ∧ ((D.bool (m == (2 : Int)) = D.bool false) ∧ ((D.bool (m == (3 : Int)) = D.bool false) ∧ ((D.bool (m == (4 : Int)) = D.bool false) ∧ ((AV.d (.agg [D.int .i64 s.b, D.str s.d, D.int .i64 s.n, D.sl (List.map ckD s.fl), D.sl (List.map ivD s.cm)]) = AV.d (.agg [D.int .i64 s.b, D.str s.d, D.int .i64 s.n, D.sl (List.map ckD s.fl), D.sl (List.map ivD s.cm)])) ∧ (True)))))))) (h := {H := [(2, [(2, .val (.int .u8 m))]), (3, [(0, .val (.bool false))]), (5, [(0, .val (.bool false))]), (7, [(0, .val (.bool false))]), (9, [(0, .val (.bool false))])]}) (subs := []) (ws := []) (ρ := []) (by kernel_rfl) ?_
  obtain ⟨⟨a1, a2⟩, ⟨a3, a4⟩, a5, a6⟩ := ha
  have e1 : IntKind.i64.wrap a.n = a.n := wrap_in (by omega) (by omega)
  have e2 : IntKind.i64.wrap a.p = a.p := wrap_in (by omega) (by omega)
  have e3 : IntKind.i64.wrap (s.b + a.p) = s.b + a.p := wrap_in (by omega) (by omega)
  have e4 : IntKind.i64.wrap (s.b + a.n) = s.b + a.n := wrap_in (by omega) (by omega)
  have e5 : IntKind.i64.wrap (40 + a.n) = 40 + a.n := wrap_in (by omega) (by omega)
  have e6 : IntKind.i64.wrap (s.b + a.p + 1) = s.b + a.p + 1 := wrap_in (by omega) (by omega)
  have e7 : IntKind.i64.wrap (s.b + a.p + 1 + a.n) = s.b + a.p + 1 + a.n := wrap_in (by omega) (by omega)
  try simp only [e1, e2, e3, e4, e5, e6, e7]
  repeat' (with_reducible first | exact True.intro | apply And.intro | (first | apply zA | apply zB | apply zC | apply zD | apply zE | apply zF | apply zG) <;> intro)
  all_goals first | exact k1 | rfl | omega | (refine congrArg (D.int .u8) ?_; rw [Int.tmod_eq_emod_of_nonneg (by omega)]; omega) | (subst h; rfl) | (refine congrArg D.bool ?_; simp; omega) | skip

theorem done31 (s : Sq) (ok : SqOk s) (hf : s.fl.length < 10000) (hc : s.cm.length < 10000) (hb : 0 ≤ s.b ∧ s.b < 1000000) (a : De) (ha : DeOk a) (now : Int) : FnOK Try.prog 31 [.d (sqD s), .d (deD a), .d (.int .i64 now)] [] (.d (sqD (rDone s a now))) [] := by
  have ha' := ha
  obtain ⟨⟨a1, a2⟩, ⟨a3, a4⟩, a5, a6⟩ := ha'
  unfold rDone
  by_cases h1 : a.k % 5 = 1
  · rw [if_pos h1]
    exact done31a s _ a now ha hb _ rfl _ _ h1 (pick12 s ok now (40 + a.n) 1099511627776 (by omega) (by omega))
  · rw [if_neg h1]
    by_cases h2 : a.k % 5 = 2
    · rw [if_pos h2]
      exact done31b s _ a now ha hb _ rfl _ h2 (expire14 s ok)
    · rw [if_neg h2]
      by_cases h3 : a.k % 5 = 3
      · rw [if_pos h3]
        exact done31c s _ a now ha hb _ rfl _ h3 (ack20 s ok hf hc _ [] (by simp) now)
      · rw [if_neg h3]
        by_cases h4 : a.k % 5 = 4
        · rw [if_pos h4]
          exact done31d s _ a now ha hb _ rfl _ h4 (ack20 s ok hf hc _ _ (by simp) now)
        · rw [if_neg h4]
          exact done31e s s a now ha hb _ rfl (by omega) trivial
end Go.Proofs.Ytfllhedkgeljaaa
