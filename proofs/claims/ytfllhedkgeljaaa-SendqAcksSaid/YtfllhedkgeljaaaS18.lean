/-
laws 11: SendqSends. No condition beyond the statement's own.
-/
import Derived.Test.YtfllhedkgeljaaaM4
set_option linter.unusedSimpArgs false
set_option linter.unusedVariables false
namespace Go.Proofs.Ytfllhedkgeljaaa
open Sx Go.RowKit C06

set_option maxRecDepth 100000 in
set_option maxHeartbeats 1000000 in
theorem snd3z (s : Sq) (x : List UInt8) (now win lim : Int) (h : lightB s = false ∨ x.length > 100) : FnOK Try.prog 3 ([.d (sqD s), .d (.str x), .d (.agg [.int .i64 now, .int .i64 win, .int .i64 lim])]) ([]) (.d (.bool true)) ([]) := by
  refine fnOK_wp (p := condP (!lightB s) ((FnOK Try.prog 7 [AV.d (.agg [D.int .i64 s.b, D.str s.d, D.int .i64 s.n, D.sl (List.map ckD s.fl), D.sl (List.map ivD s.cm)])] [] (AV.d (.bool (lightB s))) []) ∧ (((D.bool !lightB s) = D.bool true) ∧ ((D.bool true = D.bool true) ∧ ((FnOK Try.prog 8 [] [] (AV.d (.bool true)) []) ∧ ((AV.d (.bool true) = AV.d (.bool true)) ∧ (True)))))) ((FnOK Try.prog 7 [AV.d (.agg [D.int .i64 s.b, D.str s.d, D.int .i64 s.n, D.sl (List.map ckD s.fl), D.sl (List.map ivD s.cm)])] [] (AV.d (.bool (lightB s))) []) ∧ (((D.bool !lightB s) = D.bool false) ∧ ((D.bool (decide ((↑x.length : Int) > (100 : Int))) = D.bool true) ∧ ((FnOK Try.prog 8 [] [] (AV.d (.bool true)) []) ∧ ((AV.d (.bool true) = AV.d (.bool true)) ∧ (True))))))) (h := {G := [(7, gAns (.d (.bool (lightB s)))), (8, gYes)], H := [(1, [(7, .val (.bool true))])]}) (subs := []) (ws := []) (ρ := []) (by kernel_rfl) ?_
  have k1 := light7 s
  repeat' (with_reducible first | exact True.intro | apply And.intro | (first | apply zA | apply zB | apply zC | apply zD | apply zE | apply zF | apply zG) <;> intro)
  all_goals first | exact k1 | exact aw8 | rfl | (simp_all; done) | (refine congrArg D.bool ?_; rcases h with h | h <;> simp [h]; done) | (refine congrArg D.bool ?_; rw [decide_eq_true_eq]; rcases h with h | h <;> simp_all <;> omega) | (exfalso; rcases h with h | h <;> simp_all <;> omega) | skip

set_option maxRecDepth 100000 in
set_option maxHeartbeats 1000000 in
theorem snd3 (s : Sq) (x : List UInt8) (now win lim : Int) (hx : x.length ≤ 100) (A C G : Sq) (k : Int) (c : Ck) (t : List UInt8) (q : Bool) (o : Int × Bool) (k1 : FnOK Try.prog 7 [.d (sqD s)] [] (.d (.bool true)) []) (k2 : FnOK Try.prog 9 [.d (sqD s)] [] (.d (sqD s)) []) (w1 : FnOK Try.prog 10 [.d (sqD s), .d (.str x)] [] (.tup [.d (sqD A), .d (.int .i64 k)]) []) (w2 : FnOK Try.prog 11 [.d (sqD s), .d (.str x)] [] (.tup [.d (sqD A), .d (.int .i64 k)]) []) (p1 : FnOK Try.prog 12 [.d (sqD s), .d (.int .i64 now), .d (.int .i64 win), .d (.int .i64 lim)] [] (.tup [.d (sqD C), .d (ckD c), .d (.str t)]) []) (p2 : FnOK Try.prog 13 [.d (sqD s), .d (.int .i64 now), .d (.int .i64 win), .d (.int .i64 lim)] [] (.tup [.d (sqD C), .d (ckD c), .d (.str t)]) []) (e1 : FnOK Try.prog 14 [.d (sqD s)] [] (.tup [.d (sqD G), .d (.bool q)]) []) (e2 : FnOK Try.prog 15 [.d (sqD s)] [] (.tup [.d (sqD G), .d (.bool q)]) []) (o1 : FnOK Try.prog 16 [.d (sqD s)] [] (.tup [.d (.int .i64 o.1), .d (.bool o.2)]) []) (o2 : FnOK Try.prog 17 [.d (sqD s)] [] (.tup [.d (.int .i64 o.1), .d (.bool o.2)]) []) (b1 : FnOK Try.prog 19 [.d (sqD A)] [] (.d (sqD A)) []) (b2 : FnOK Try.prog 19 [.d (sqD C)] [] (.d (sqD C)) []) (b3 : FnOK Try.prog 19 [.d (sqD G)] [] (.d (sqD G)) []) (b4 : FnOK Try.prog 19 [.d (sqD s)] [] (.d (sqD s)) []) (m1 : FnOK Try.prog 18 [.d (sqD A), .d (sqD A)] [] (.d (.bool true)) []) (m2 : FnOK Try.prog 18 [.d (sqD C), .d (sqD C)] [] (.d (.bool true)) []) (m3 : FnOK Try.prog 18 [.d (sqD G), .d (sqD G)] [] (.d (.bool true)) []) (m4 : FnOK Try.prog 18 [.d (sqD s), .d (sqD s)] [] (.d (.bool true)) []) : FnOK Try.prog 3 ([.d (sqD s), .d (.str x), .d (.agg [.int .i64 now, .int .i64 win, .int .i64 lim])]) ([]) (.d (.bool true)) ([]) := by
  refine fnOK_wp (p := (FnOK Try.prog 7 [AV.d (.agg [D.int .i64 s.b, D.str s.d, D.int .i64 s.n, D.sl (List.map ckD s.fl), D.sl (List.map ivD s.cm)])] [] (AV.d (.bool true)) []) ∧ ((D.bool false = D.bool false) ∧ ((D.bool (decide ((↑x.length : Int) > (100 : Int))) = D.bool false) ∧ ((FnOK Try.prog 9 [AV.d (.agg [D.int .i64 s.b, D.str s.d, D.int .i64 s.n, D.sl (List.map ckD s.fl), D.sl (List.map ivD s.cm)])] [] (AV.d (.agg [D.int .i64 s.b, D.str s.d, D.int .i64 s.n, D.sl (List.map ckD s.fl), D.sl (List.map ivD s.cm)])) []) ∧ ((FnOK Try.prog 10 [AV.d (.agg [D.int .i64 s.b, D.str s.d, D.int .i64 s.n, D.sl (List.map ckD s.fl), D.sl (List.map ivD s.cm)]), AV.d (.str x)] [] (AV.tup [AV.d (.agg [D.int .i64 A.b, D.str A.d, D.int .i64 A.n, D.sl (List.map ckD A.fl), D.sl (List.map ivD A.cm)]), AV.d (.int .i64 k)]) []) ∧ ((FnOK Try.prog 11 [AV.d (.agg [D.int .i64 s.b, D.str s.d, D.int .i64 s.n, D.sl (List.map ckD s.fl), D.sl (List.map ivD s.cm)]), AV.d (.str x)] [] (AV.tup [AV.d (.agg [D.int .i64 A.b, D.str A.d, D.int .i64 A.n, D.sl (List.map ckD A.fl), D.sl (List.map ivD A.cm)]), AV.d (.int .i64 k)]) []) ∧ (((0 : Int) ≤ (0 : Int) ∧ (0 : Int) < (↑3 : Int)) ∧ (((0 : Int) ≤ (1 : Int) ∧ (1 : Int) < (↑3 : Int)) ∧ (((0 : Int) ≤ (2 : Int) ∧ (2 : Int) < (↑3 : Int)) ∧ ((FnOK Try.prog 12 [AV.d (.agg [D.int .i64 s.b, D.str s.d, D.int .i64 s.n, D.sl (List.map ckD s.fl), D.sl (List.map ivD s.cm)]), AV.d (.int .i64 now), AV.d (.int .i64 win), AV.d (.int .i64 lim)] [] (AV.tup [AV.d (.agg [D.int .i64 C.b, D.str C.d, D.int .i64 C.n, D.sl (List.map ckD C.fl), D.sl (List.map ivD C.cm)]), AV.d (.agg [D.int .i64 c.f, D.int .i64 c.t, D.int .i64 c.s, D.int .i64 c.r, D.bool c.l]), AV.d (.str t)]) []) ∧ (((0 : Int) ≤ (0 : Int) ∧ (0 : Int) < (↑3 : Int)) ∧ (((0 : Int) ≤ (1 : Int) ∧ (1 : Int) < (↑3 : Int)) ∧ (((0 : Int) ≤ (2 : Int) ∧ (2 : Int) < (↑3 : Int)) ∧ ((FnOK Try.prog 13 [AV.d (.agg [D.int .i64 s.b, D.str s.d, D.int .i64 s.n, D.sl (List.map ckD s.fl), D.sl (List.map ivD s.cm)]), AV.d (.int .i64 now), AV.d (.int .i64 win), AV.d (.int .i64 lim)] [] (AV.tup [AV.d (.agg [D.int .i64 C.b, D.str C.d, D.int .i64 C.n, D.sl (List.map ckD C.fl), D.sl (List.map ivD C.cm)]), AV.d (.agg [D.int .i64 c.f, D.int .i64 c.t, D.int .i64 c.s, D.int .i64 c.r, D.bool c.l]), AV.d (.str t)]) []) ∧ ((FnOK Try.prog 14 [AV.d (.agg [D.int .i64 s.b, D.str s.d, D.int .i64 s.n, D.sl (List.map ckD s.fl), D.sl (List.map ivD s.cm)])] [] (AV.tup [AV.d (.agg [D.int .i64 G.b, D.str G.d, D.int .i64 G.n, D.sl (List.map ckD G.fl), D.sl (List.map ivD G.cm)]), AV.d (.bool q)]) []) ∧ ((FnOK Try.prog 15 [AV.d (.agg [D.int .i64 s.b, D.str s.d, D.int .i64 s.n, D.sl (List.map ckD s.fl), D.sl (List.map ivD s.cm)])] [] (AV.tup [AV.d (.agg [D.int .i64 G.b, D.str G.d, D.int .i64 G.n, D.sl (List.map ckD G.fl), D.sl (List.map ivD G.cm)]), AV.d (.bool q)]) []) ∧ ((FnOK Try.prog 16 [AV.d (.agg [D.int .i64 s.b, D.str s.d, D.int .i64 s.n, D.sl (List.map ckD s.fl), D.sl (List.map ivD s.cm)])] [] (AV.tup [AV.d (.int .i64 o.fst), AV.d (.bool o.snd)]) []) ∧ ((FnOK Try.prog 17 [AV.d (.agg [D.int .i64 s.b, D.str s.d, D.int .i64 s.n, D.sl (List.map ckD s.fl), D.sl (List.map ivD s.cm)])] [] (AV.tup [AV.d (.int .i64 o.fst), AV.d (.bool o.snd)]) []) ∧ ((FnOK Try.prog 19 [AV.d (.agg [D.int .i64 A.b, D.str A.d, D.int .i64 A.n, D.sl (List.map ckD A.fl), D.sl (List.map ivD A.cm)])] [] (AV.d (.agg [D.int .i64 A.b, D.str A.d, D.int .i64 A.n, D.sl (List.map ckD A.fl), D.sl (List.map ivD A.cm)])) []) ∧ ((FnOK Try.prog 18 [AV.d (.agg [D.int .i64 A.b, D.str A.d, D.int .i64 A.n, D.sl (List.map ckD A.fl), D.sl (List.map ivD A.cm)]), AV.d (.agg [D.int .i64 A.b, D.str A.d, D.int .i64 A.n, D.sl (List.map ckD A.fl), D.sl (List.map ivD A.cm)])] [] (AV.d (.bool true)) []) ∧ ((D.bool true = D.bool true) ∧ ((D.bool (k == k) = D.bool true) ∧ ((D.bool true = D.bool true) ∧ ((FnOK Try.prog 19 [AV.d (.agg [D.int .i64 C.b, D.str C.d, D.int .i64 C.n, D.sl (List.map ckD C.fl), D.sl (List.map ivD C.cm)])] [] (AV.d (.agg [D.int .i64 C.b, D.str C.d, D.int .i64 C.n, D.sl (List.map ckD C.fl), D.sl (List.map ivD C.cm)])) []) ∧ ((FnOK Try.prog 18 [AV.d (.agg [D.int .i64 C.b, D.str C.d, D.int .i64 C.n, D.sl (List.map ckD C.fl), D.sl (List.map ivD C.cm)]), AV.d (.agg [D.int .i64 C.b, D.str C.d, D.int .i64 C.n, D.sl (List.map ckD C.fl), D.sl (List.map ivD C.cm)])] [] (AV.d (.bool true)) []) ∧ ((D.bool true = D.bool true) ∧ ((D.bool (c.f == c.f && (c.t == c.t && (c.s == c.s && (c.r == c.r && (c.l == c.l && true))))) = D.bool true) ∧ ((D.bool true = D.bool true) ∧ ((D.bool (t == t) = D.bool true) ∧ ((D.bool true = D.bool true) ∧ ((FnOK Try.prog 19 [AV.d (.agg [D.int .i64 G.b, D.str G.d, D.int .i64 G.n, D.sl (List.map ckD G.fl), D.sl (List.map ivD G.cm)])] [] (AV.d (.agg [D.int .i64 G.b, D.str G.d, D.int .i64 G.n, D.sl (List.map ckD G.fl), D.sl (List.map ivD G.cm)])) []) ∧ ((FnOK Try.prog 18 [AV.d (.agg [D.int .i64 G.b, D.str G.d, D.int .i64 G.n, D.sl (List.map ckD G.fl), D.sl (List.map ivD G.cm)]), AV.d (.agg [D.int .i64 G.b, D.str G.d, D.int .i64 G.n, D.sl (List.map ckD G.fl), D.sl (List.map ivD G.cm)])] [] (AV.d (.bool true)) []) ∧ ((D.bool true = D.bool true) ∧ ((D.bool (q == q) = D.bool true) ∧ ((D.bool true = D.bool true) ∧ ((D.bool (o.fst == o.fst) = D.bool true) ∧ ((D.bool true = D.bool true) ∧ ((D.bool (o.snd == o.snd) = D.bool true) ∧ ((D.bool true = D.bool true) ∧ ((FnOK Try.prog 19 [AV.d (.agg [D.int .i64 s.b, D.str s.d, D.int .i64 s.n, D.sl (List.map ckD s.fl), D.sl (List.map ivD s.cm)])] [] (AV.d (.agg [D.int .i64 s.b, D.str s.d, D.int .i64 s.n, D.sl (List.map ckD s.fl), D.sl (List.map ivD s.cm)])) []) ∧ ((FnOK Try.prog 18 [AV.d (.agg [D.int .i64 s.b, D.str s.d, D.int .i64 s.n, D.sl (List.map ckD s.fl), D.sl (List.map ivD s.cm)]), AV.d (.agg [D.int .i64 s.b, D.str s.d, D.int .i64 s.n, D.sl (List.map ckD s.fl), D.sl (List.map ivD s.cm)])] [] (AV.d (.bool true)) []) ∧ ((D.bool true = D.bool true) ∧ ((FnOK Try.prog 8 [] [] (AV.d (.bool true)) []) ∧ ((AV.d (.bool true) = AV.d (.bool true)) ∧ (True))))))))))))))))))))))))))))))))))))))))))))) (h := {chain := true, G := [(7, gAns (.d (.bool true))), (9, gId), (19, gId), (21, gId), (18, gYes), (8, gYes)], H := [(1, [(6, .val (.bool false))]), (4, [(2, .call [] (.tup [.d (sqD A), .d (.int .i64 k)]) [])]), (5, [(2, .call [] (.tup [.d (sqD A), .d (.int .i64 k)]) [])]), (6, [(7, .call [] (.tup [.d (sqD C), .d (ckD c), .d (.str t)]) [])]), (7, [(7, .call [] (.tup [.d (sqD C), .d (ckD c), .d (.str t)]) [])]), (8, [(1, .call [] (.tup [.d (sqD G), .d (.bool q)]) [])]), (9, [(1, .call [] (.tup [.d (sqD G), .d (.bool q)]) [])]), (10, [(1, .call [] (.tup [.d (.int .i64 o.1), .d (.bool o.2)]) [])]), (11, [(1, .call [] (.tup [.d (.int .i64 o.1), .d (.bool o.2)]) [])]), (12, [(7, .val (.bool true)), (18, .val (.bool true)), (23, .val (.bool true)), (34, .val (.bool true)), (39, .val (.bool true)), (44, .val (.bool true))])]}) (subs := []) (ws := []) (ρ := []) (by kernel_rfl) ?_
  repeat' (with_reducible first | exact True.intro | apply And.intro | (first | apply zA | apply zB | apply zC | apply zD | apply zE | apply zF | apply zG) <;> intro)
  all_goals first | exact k1 | exact k2 | exact w1 | exact w2 | exact p1 | exact p2 | exact e1 | exact e2 | exact o1 | exact o2 | exact b1 | exact b2 | exact b3 | exact b4 | exact m1 | exact m2 | exact m3 | exact m4 | exact aw8 | rfl | omega | exact dno (by omega) | (refine congrArg D.bool ?_; simp; done) | skip

/-! ### What the functions leave may be -/
theorem light_ok {s : Sq} (h : lightB s = true) : s.d.length ≤ 5000 ∧ s.fl.length ≤ 40 ∧ s.cm.length ≤ 20 := by
  unfold lightB at h
  simp only [Bool.and_eq_true, decide_eq_true_eq] at h
  omega
theorem write_ok {s : Sq} (h : SqOk s) {x : List UInt8} (hx : x.length ≤ 100) (hd : s.d.length ≤ 5000) : SqOk (rWrite s x).1 := by
  unfold rWrite
  split
  · exact h
  · split
    · exact h
    · exact ⟨h.b, h.n, h.fl, h.cm, by
        show (s.d ++ x.take _).length < _
        rw [List.length_append, List.length_take]
        omega⟩
theorem pick_ok {s : Sq} (h : SqOk s) (hf : s.fl.length ≤ 40) (now win lim : Int) : SqOk (rPick s now win lim).1 := by
  unfold rPick
  split
  · exact h
  · next hg =>
    have he : sChk s = 0 := by
      by_cases g : sChk s = 0
      · exact g
      · exact absurd (.inl g) hg
    obtain ⟨⟨c1, c2, c3, c4⟩, c5, -⟩ := sChk_ok h.n.2 he
    unfold lastP at c2
    have hb := h.b
    have hn := h.n
    have hcm := h.cm
    have hd := h.d
    split
    · split
      · split
        · exact ⟨hb, hn, by show (s.fl.set _ _).length < _; rw [List.length_set]; omega, hcm, hd⟩
        · exact h
      · exact h
    · split
      · exact h
      · next hq =>
        have hp : 0 < pkN s win lim ∧ pkN s win lim ≤ s.b + (s.d.length : Int) - s.n := by unfold pkN; omega
        exact ⟨hb, ⟨by show _ ≤ s.n + pkN s win lim; omega, by show s.n + pkN s win lim < _; omega⟩, by show (s.fl ++ [_]).length < _; simp; omega, hcm, hd⟩
theorem expire_ok {s : Sq} (h : SqOk s) : SqOk (rExpire s).1 := ⟨h.b, h.n, by show (s.fl.map _).length < _; rw [List.length_map]; exact h.fl, h.cm, h.d⟩
theorem lose_len (s : Sq) : (rLose s).1.fl.length = s.fl.length := by
  unfold rLose
  cases s.cm.getLast? with
  | none => rfl
  | some z => show (s.fl.map _).length = _; rw [List.length_map]
theorem ack_ok {s : Sq} (h : SqOk s) (hf : s.fl.length ≤ 40) (hc : s.cm.length ≤ 20) (u : Int) {l : List Iv} (hl : l.length ≤ 20) (now : Int) : SqOk (rAck s u l now).1 := by
  unfold rAck
  split
  · exact h
  · next hq =>
    have hq : mayQ s u l = true := by cases g : mayQ s u l; exact absurd g hq; rfl
    have ao := all_ok h.n.2 hq
    have hlen := ackAll_len s u l
    have h1 := ackS_len (ackAll s u l) now s.fl ([], -1)
    have h3 : s.fl.length * ((ackAll s u l).length + 1) ≤ 40 * 42 := Nat.mul_le_mul (by omega) (by omega)
    have hcl := rCut_len (ackAll s u l) (0, rFirst (ackAll s u l) u)
    have hb0 := ao.b0
    have hbu := ao.bu
    have hnd := ao.nd
    have hnb := ao.nb
    obtain ⟨f1, f2, -⟩ := first_in ao
    have hd := h.d
    simp only [List.length_nil] at h1
    dsimp only
    rw [rLose_eq]
    exact ⟨⟨by show _ ≤ rFirst _ _; omega, by show rFirst _ _ < _; omega⟩, ⟨by show _ ≤ s.n; omega, by show s.n < _; omega⟩, by show (rLose _).1.fl.length < _; rw [lose_len]; show (ackF s (ackAll s u l) now).1.length < _; unfold ackF; omega, by show (rCut _ _).length < _; omega, by show (s.d.drop _).length < _; rw [List.length_drop]; omega⟩
theorem ck_of {y : D} (h : ∃ ds, CK.hasL [.int .i64, .int .i64, .int .i64, .int .i64, .bool] ds ∧ (if true = true then y = .agg ds else ds = [y])) : ∃ c : Ck, y = ckD c ∧ True := by
  obtain ⟨ds, rfl, h0⟩ := ckA h
  obtain ⟨d1, r1, rfl, g1, h1⟩ := hasL_cons h0
  obtain ⟨v1, rfl, -, -⟩ := has_i64 g1
  obtain ⟨d2, r2, rfl, g2, h2⟩ := hasL_cons h1
  obtain ⟨v2, rfl, -, -⟩ := has_i64 g2
  obtain ⟨d3, r3, rfl, g3, h3⟩ := hasL_cons h2
  obtain ⟨v3, rfl, -, -⟩ := has_i64 g3
  obtain ⟨d4, r4, rfl, g4, h4⟩ := hasL_cons h3
  obtain ⟨v4, rfl, -, -⟩ := has_i64 g4
  obtain ⟨d5, r5, rfl, g5, h5⟩ := hasL_cons h4
  obtain ⟨v5, rfl⟩ := has_bool g5
  obtain rfl := hasL_nil h5
  exact ⟨⟨v1, v2, v3, v4, v5⟩, rfl, trivial⟩
theorem iv_of {y : D} (h : ∃ ds, CK.hasL [.int .i64, .int .i64] ds ∧ (if true = true then y = .agg ds else ds = [y])) : ∃ x : Iv, y = ivD x ∧ True := by
  obtain ⟨ds, rfl, h0⟩ := ckA h
  obtain ⟨d1, r1, rfl, g1, h1⟩ := hasL_cons h0
  obtain ⟨v1, rfl, -, -⟩ := has_i64 g1
  obtain ⟨d2, r2, rfl, g2, h2⟩ := hasL_cons h1
  obtain ⟨v2, rfl, -, -⟩ := has_i64 g2
  obtain rfl := hasL_nil h2
  exact ⟨(v1, v2), rfl, trivial⟩
theorem sq_of {y : D} (h : ∃ ds, CK.hasL [.int .i64, .str, .int .i64, .sl true [.int .i64, .int .i64, .int .i64, .int .i64, .bool], .sl true [.int .i64, .int .i64]] ds ∧ (if true = true then y = .agg ds else ds = [y])) : ∃ s : Sq, y = sqD s ∧ (-9223372036854775808 ≤ s.b ∧ s.b < 9223372036854775808) ∧ -9223372036854775808 ≤ s.n ∧ s.n < 9223372036854775808 := by
  obtain ⟨ds, rfl, h0⟩ := ckA h
  obtain ⟨d1, r1, rfl, g1, h1⟩ := hasL_cons h0
  obtain ⟨v1, rfl, a1, b1⟩ := has_i64 g1
  obtain ⟨d2, r2, rfl, g2, h2⟩ := hasL_cons h1
  obtain ⟨v2, rfl, -⟩ := has_str g2
  obtain ⟨d3, r3, rfl, g3, h3⟩ := hasL_cons h2
  obtain ⟨v3, rfl, a3, b3⟩ := has_i64 g3
  obtain ⟨d4, r4, rfl, g4, h4⟩ := hasL_cons h3
  obtain ⟨K, rfl, -, -⟩ := has_slOf ckD (fun _ => True) g4 (fun y h => ck_of h)
  obtain ⟨d5, r5, rfl, g5, h5⟩ := hasL_cons h4
  obtain ⟨L, rfl, -, -⟩ := has_slOf ivD (fun _ => True) g5 (fun y h => iv_of h)
  obtain rfl := hasL_nil h5
  exact ⟨⟨v1, v2, v3, K, L⟩, rfl, ⟨a1, b1⟩, a3, b3⟩
theorem same_self (s : Sq) (h : SqOk s) : FnOK Try.prog 18 [.d (sqD s), .d (sqD s)] [] (.d (.bool true)) [] := by
  have := same18 s s h
  rw [decide_eq_true rfl] at this
  exact this
theorem sendqSends_ok (x0 : D) (s0 : ∃ ds, CK.hasL [.int .i64, .str, .int .i64, .sl true [.int .i64, .int .i64, .int .i64, .int .i64, .bool], .sl true [.int .i64, .int .i64]] ds ∧ (if true then x0 = .agg ds else ds = [x0])) (x1 : D) (s1 : ∃ ds, CK.hasL [.str] ds ∧ (if false then x1 = .agg ds else ds = [x1])) (x2 : D) (s2 : ∃ ds, CK.hasL [.int .i64, .int .i64, .int .i64] ds ∧ (if true then x2 = .agg ds else ds = [x2])) :
    FnOK Try.prog 3 [.d x0, .d x1, .d x2] [] (.d (.bool true)) [] := by
  obtain ⟨s, rfl, hb, hn⟩ := sq_of s0
  obtain ⟨x, rfl, -⟩ := has_str (ck1 s1)
  obtain ⟨ds, rfl, h0⟩ := ckA s2
  obtain ⟨d1, r1, rfl, g1, h1⟩ := hasL_cons h0
  obtain ⟨now, rfl, -, -⟩ := has_i64 g1
  obtain ⟨d2, r2, rfl, g2, h2⟩ := hasL_cons h1
  obtain ⟨win, rfl, w1, w2⟩ := has_i64 g2
  obtain ⟨d3, r3, rfl, g3, h3⟩ := hasL_cons h2
  obtain ⟨lim, rfl, l1, l2⟩ := has_i64 g3
  obtain rfl := hasL_nil h3
  by_cases hg : lightB s = false ∨ x.length > 100
  · exact snd3z s x now win lim hg
  · have hl : lightB s = true := by cases g : lightB s; exact absurd (.inl g) hg; rfl
    have hx : x.length ≤ 100 := by
      by_cases g : x.length > 100
      · exact absurd (.inr g) hg
      · omega
    obtain ⟨q1, q2, q3⟩ := light_ok hl
    have ok : SqOk s := ⟨hb, hn, by omega, by omega, by omega⟩
    have k1 := light7 s
    rw [hl] at k1
    have hk := sChkR_eq hn.2
    have oA := write_ok ok hx q1
    have oC := pick_ok ok q2 now win lim
    have oG := expire_ok ok
    exact snd3 s x now win lim hx _ _ _ _ _ _ _ _ k1 (own9 s ok) (write10 s ok x (by omega)) (write11 s ok hk x (by omega)) (pick12 s ok now win lim ⟨w1, w2⟩ ⟨l1, l2⟩) (pick13 s ok hk now win lim ⟨w1, w2⟩ ⟨l1, l2⟩) (expire14 s ok) (expire15 s (by omega)) (oldest16 s (by omega)) (oldest17 s (by omega)) (back19 _ oA) (back19 _ oC) (back19 _ oG) (back19 _ ok) (same_self _ oA) (same_self _ oC) (same_self _ oG) (same_self _ ok)
end Go.Proofs.Ytfllhedkgeljaaa
