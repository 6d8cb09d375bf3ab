/-
laws 12: what is ready is read in parts. No condition beyond the statement's own.
-/
import Derived.Test.YtmnglolholdmaaaS19
set_option linter.unusedSimpArgs false
set_option linter.unusedVariables false
namespace Go.Proofs.Ytmnglolholdmaaa
open Sx Go.RowKit

theorem flat_ok {n : Nat} {r : List UInt8} (hn : n ≤ 1000) (hr : r.length ≤ n) : Ok ⟨n, r, []⟩ :=
  ⟨by simp only; omega, trivial, fun y hy => by cases hy⟩
theorem flat_lim {n : Nat} {r : List UInt8} (hn : n ≤ 1000) : rLim ⟨n, r, []⟩ = (n : Int) - r.length + 4096 := by
  unfold rLim; simp only; omega
theorem put_all (s : List UInt8) (hs : s.length ≤ 200) : rPut w0 0 s = ((⟨(s.length : Int), s, []⟩ : Rq), (s.length : Int)) := by
  have h0 : Ok w0 := flat_ok (n := 0) (by omega) (by simp)
  have hz : rChk w0 = 0 := ok_iff.2 h0
  have hl : rLim w0 = 4096 := by decide +kernel
  unfold rPut
  rw [if_neg (by omega), if_neg (by omega)]
  have hc : rCut w0 0 s = ⟨0, s⟩ := by
    unfold rCut
    rw [if_neg (by show ¬ (0 : Int) < 0; omega), hl]
    rw [List.take_of_length_le (by omega)]
  rw [hc]
  by_cases he : s = []
  · rw [if_pos he]; subst he; rfl
  · rw [if_neg he]
    show (rTop w0 (jn [] ⟨0, s⟩), _) = _
    rw [jn_nil, rTop_y rfl]
    have e1 : pEnd ⟨0, s⟩ = (s.length : Int) := by unfold pEnd; simp
    rw [e1]
    show ((⟨(s.length : Int), [] ++ s, []⟩ : Rq), ((rHeld ⟨(s.length : Int), [] ++ s, []⟩ : Int) - rHeld w0)) = _
    rw [List.nil_append, rHeld_def]
    show ((⟨(s.length : Int), s, []⟩ : Rq), ((((s.length + 0 : Nat)) : Int) - 0)) = _
    simp
theorem read_flat {n k : Nat} {r : List UInt8} (hn : n ≤ 1000) (hr : r.length ≤ n) : rRead ⟨n, r, []⟩ k = ((⟨n, r.drop k, []⟩ : Rq), r.take k) := by
  unfold rRead
  have hz := ok_iff.2 (flat_ok hn hr)
  by_cases hk : k = 0
  · subst hk
    rw [if_pos (.inr (by omega))]; rfl
  · rw [if_neg (by omega)]; rfl
theorem put_over {n : Nat} {r : List UInt8} (hn : n ≤ 200) (hr : r.length ≤ n) (lim : Int) (hl : rLim ⟨n, r, []⟩ = lim) : rPut ⟨n, r, []⟩ lim [120] = ((⟨n, r, []⟩ : Rq), (0 : Int)) := by
  unfold rPut
  split
  · rfl
  · rw [if_pos (by omega)]
theorem put_last {n : Nat} {r : List UInt8} (hn : n ≤ 200) (hr : r.length ≤ n) (lim : Int) (hl : rLim ⟨n, r, []⟩ = lim) : rPut ⟨n, r, []⟩ (lim - 1) [120, 121] = ((⟨n, r, [⟨lim - 1, [120]⟩]⟩ : Rq), (1 : Int)) := by
  have hz := ok_iff.2 (flat_ok (n := n) (by omega) hr)
  have hf := flat_lim (n := n) (r := r) (by omega)
  rw [hl] at hf
  unfold rPut
  rw [hl, if_neg (by omega), if_neg (by omega)]
  have hc : rCut ⟨n, r, []⟩ (lim - 1) [120, 121] = ⟨lim - 1, [120]⟩ := by
    unfold rCut
    rw [hl, if_neg (by show ¬ lim - 1 < (n : Int); omega), show lim - (lim - 1) = 1 by omega]
    rfl
  rw [hc, if_neg (by simp)]
  show (rTop _ (jn [] _), _) = _
  rw [jn_nil, rTop_n (by show ¬ lim - 1 = (n : Int); omega)]
  refine Prod.ext rfl ?_
  rw [rHeld_def, rHeld_def]
  show ((r.length + 1 : Nat) : Int) - ((r.length + 0 : Nat) : Int) = 1
  omega
set_option maxRecDepth 100000 in
set_option maxHeartbeats 1000000 in
theorem room7n (s : List UInt8) (hs : ¬s.length ≤ 200) (n : D) : FnOK Try.prog 7 ([.d (.str s), .d n]) ([]) (.d (.bool true)) ([]) := by
  refine fnOK_wp (p := (D.bool (decide ((↑s.length : Int) > (200 : Int))) = D.bool true) ∧ ((FnOK Try.prog (9 : Nat) [] [] (AV.d (D.bool true)) []) ∧ ((AV.d (D.bool true) = AV.d (D.bool true)) ∧ (True)))) (h := {H := [(1, [(2, .val (.bool true))])], G := [(9, gYes)]}) (subs := []) (ws := []) (ρ := []) (by kernel_rfl) ?_
  repeat' (first | with_reducible exact True.intro | with_reducible refine And.intro ?_ ?_ | with_reducible refine condP_dec (fun _ => ?_) (fun _ => ?_) | with_reducible refine condP_eq (fun _ => ?_) (fun _ => ?_) | with_reducible refine condP_ne (fun _ => ?_) (fun _ => ?_) | with_reducible refine condP_not (condP_dec (fun _ => ?_) (fun _ => ?_)) | with_reducible refine condP_not (condP_eq (fun _ => ?_) (fun _ => ?_)) | with_reducible refine condP_not (condP_intro (fun _ => ?_) (fun _ => ?_)) | with_reducible refine condP_intro (fun _ => ?_) (fun _ => ?_))
  all_goals first | exact aw9 | rfl | exact dyes (by omega) | skip

set_option maxRecDepth 100000 in
set_option maxHeartbeats 1000000 in
theorem room7 (s : List UInt8) (hs : s.length ≤ 200) (n : Int) (n0 : 0 ≤ n) (n1 : n < 256) (k : Nat) (hk : n.tmod ((s.length : Int) + 1) = k) (hkl : k ≤ s.length) (st A B C : Rq) (lim : Int) (t u : List UInt8) (htu : t ++ u = s) (hlim : lim = (k : Int) + 4096) (c1 : FnOK Try.prog 11 [.d (rqD w0), .d (.int .i64 0), .d (.str s)] [] (.tup [.d (rqD st), .d (.int .i64 s.length)]) []) (c2 : FnOK Try.prog 13 [.d (rqD st), .d (.int .i64 k)] [] (.tup [.d (rqD A), .d (.str t)]) []) (c3 : FnOK Try.prog 13 [.d (rqD A), .d (.int .i64 ((s.length : Int) - k))] [] (.tup [.d (rqD B), .d (.str u)]) []) (c4 : FnOK Try.prog 26 [.d (rqD A)] [] (.d (.int .i64 lim)) []) (c5 : FnOK Try.prog 11 [.d (rqD A), .d (.int .i64 lim), .d (.str [120])] [] (.tup [.d (rqD A), .d (.int .i64 0)]) []) (c6 : FnOK Try.prog 11 [.d (rqD A), .d (.int .i64 (lim - 1)), .d (.str [120, 121])] [] (.tup [.d (rqD C), .d (.int .i64 1)]) []) (c7 : FnOK Try.prog 26 [.d (rqD st)] [] (.d (.int .i64 4096)) []) (c8 : FnOK Try.prog 26 [.d (rqD B)] [] (.d (.int .i64 (4096 + s.length))) []) (c9 : FnOK Try.prog 26 [.d (rqD C)] [] (.d (.int .i64 lim)) []) (ca : FnOK Try.prog 28 [.d (rqD C)] [] (.d (.int .i64 ((s.length : Int) - k + 1))) []) : FnOK Try.prog 7 ([.d (.str s), .d (.int .u8 n)]) ([]) (.d (.bool true)) ([]) := by
  refine fnOK_wp (p := (D.bool (decide ((↑s.length : Int) > (200 : Int))) = D.bool false) ∧ ((FnOK Try.prog (30 : Nat) [] [] (AV.d (D.agg [D.int IntKind.i64 (0 : Int), D.str [], D.sl []])) []) ∧ ((FnOK Try.prog (11 : Nat) [AV.d (D.agg [D.int IntKind.i64 (0 : Int), D.str [], D.sl []]), AV.d (D.int IntKind.i64 (0 : Int)), AV.d (D.str s)] [] (AV.tup [AV.d (D.agg [D.int IntKind.i64 st.b, D.str st.r, D.sl (List.map ptD st.p)]), AV.d (D.int IntKind.i64 (↑s.length : Int))]) []) ∧ ((D.int IntKind.i64 ((IntKind.i64.wrap n).tmod (IntKind.i64.wrap ((↑s.length : Int) + (1 : Int)))) = D.int IntKind.i64 (↑k : Int)) ∧ ((IntKind.i64.wrap ((↑s.length : Int) + (1 : Int)) ≠ (0 : Int)) ∧ ((FnOK Try.prog (13 : Nat) [AV.d (D.agg [D.int IntKind.i64 st.b, D.str st.r, D.sl (List.map ptD st.p)]), AV.d (D.int IntKind.i64 (↑k : Int))] [] (AV.tup [AV.d (D.agg [D.int IntKind.i64 A.b, D.str A.r, D.sl (List.map ptD A.p)]), AV.d (D.str t)]) []) ∧ ((FnOK Try.prog (13 : Nat) [AV.d (D.agg [D.int IntKind.i64 A.b, D.str A.r, D.sl (List.map ptD A.p)]), AV.d (D.int IntKind.i64 (IntKind.i64.wrap ((↑s.length : Int) - (↑k : Int))))] [] (AV.tup [AV.d (D.agg [D.int IntKind.i64 B.b, D.str B.r, D.sl (List.map ptD B.p)]), AV.d (D.str u)]) []) ∧ ((FnOK Try.prog (26 : Nat) [AV.d (D.agg [D.int IntKind.i64 A.b, D.str A.r, D.sl (List.map ptD A.p)])] [] (AV.d (D.int IntKind.i64 lim)) []) ∧ ((FnOK Try.prog (11 : Nat) [AV.d (D.agg [D.int IntKind.i64 A.b, D.str A.r, D.sl (List.map ptD A.p)]), AV.d (D.int IntKind.i64 lim), AV.d (D.str [(120 : UInt8)])] [] (AV.tup [AV.d (D.agg [D.int IntKind.i64 A.b, D.str A.r, D.sl (List.map ptD A.p)]), AV.d (D.int IntKind.i64 (0 : Int))]) []) ∧ ((FnOK Try.prog (26 : Nat) [AV.d (D.agg [D.int IntKind.i64 A.b, D.str A.r, D.sl (List.map ptD A.p)])] [] (AV.d (D.int IntKind.i64 lim)) []) ∧ ((FnOK Try.prog (11 : Nat) [AV.d (D.agg [D.int IntKind.i64 A.b, D.str A.r, D.sl (List.map ptD A.p)]), AV.d (D.int IntKind.i64 (IntKind.i64.wrap (lim - (1 : Int)))), AV.d (D.str [(120 : UInt8), (121 : UInt8)])] [] (AV.tup [AV.d (D.agg [D.int IntKind.i64 C.b, D.str C.r, D.sl (List.map ptD C.p)]), AV.d (D.int IntKind.i64 (1 : Int))]) []) ∧ ((D.bool ((↑s.length : Int) == (↑s.length : Int)) = D.bool true) ∧ (((↑(t.length + u.length) : Int) ≤ (9223372036854775807 : Int)) ∧ ((D.bool (t ++ u == s) = D.bool true) ∧ ((FnOK Try.prog (26 : Nat) [AV.d (D.agg [D.int IntKind.i64 st.b, D.str st.r, D.sl (List.map ptD st.p)])] [] (AV.d (D.int IntKind.i64 (4096 : Int))) []) ∧ ((D.bool true = D.bool true) ∧ ((FnOK Try.prog (26 : Nat) [AV.d (D.agg [D.int IntKind.i64 A.b, D.str A.r, D.sl (List.map ptD A.p)])] [] (AV.d (D.int IntKind.i64 lim)) []) ∧ ((D.bool (lim == IntKind.i64.wrap ((4096 : Int) + (↑k : Int))) = D.bool true) ∧ ((FnOK Try.prog (26 : Nat) [AV.d (D.agg [D.int IntKind.i64 B.b, D.str B.r, D.sl (List.map ptD B.p)])] [] (AV.d (D.int IntKind.i64 ((4096 : Int) + (↑s.length : Int)))) []) ∧ ((D.bool ((4096 : Int) + (↑s.length : Int) == IntKind.i64.wrap ((4096 : Int) + (↑s.length : Int))) = D.bool true) ∧ ((D.bool true = D.bool true) ∧ ((D.bool true = D.bool true) ∧ ((FnOK Try.prog (26 : Nat) [AV.d (D.agg [D.int IntKind.i64 C.b, D.str C.r, D.sl (List.map ptD C.p)])] [] (AV.d (D.int IntKind.i64 lim)) []) ∧ ((FnOK Try.prog (26 : Nat) [AV.d (D.agg [D.int IntKind.i64 A.b, D.str A.r, D.sl (List.map ptD A.p)])] [] (AV.d (D.int IntKind.i64 lim)) []) ∧ ((D.bool (lim == lim) = D.bool true) ∧ ((FnOK Try.prog (28 : Nat) [AV.d (D.agg [D.int IntKind.i64 C.b, D.str C.r, D.sl (List.map ptD C.p)])] [] (AV.d (D.int IntKind.i64 ((↑s.length : Int) - (↑k : Int) + (1 : Int)))) []) ∧ ((D.bool ((↑s.length : Int) - (↑k : Int) + (1 : Int) == IntKind.i64.wrap (IntKind.i64.wrap ((↑s.length : Int) - (↑k : Int)) + (1 : Int))) = D.bool true) ∧ ((FnOK Try.prog (9 : Nat) [] [] (AV.d (D.bool true)) []) ∧ ((AV.d (D.bool true) = AV.d (D.bool true)) ∧ (True)))))))))))))))))))))))))))))) (h := {chain := true, H := [(1, [(2, .val (.bool false))]), (3, [(2, .call [] (.tup [.d (rqD st), .d (.int .i64 s.length)]) [])]), (4, [(5, .val (.int .i64 k))]), (5, [(2, .call [] (.tup [.d (rqD A), .d (.str t)]) [])]), (6, [(5, .call [] (.tup [.d (rqD B), .d (.str u)]) [])]), (7, [(2, .call [] (.d (.int .i64 lim)) []), (3, .call [] (.tup [.d (rqD A), .d (.int .i64 0)]) [])]), (8, [(2, .call [] (.d (.int .i64 lim)) []), (4, .call [] (.tup [.d (rqD C), .d (.int .i64 1)]) [])]), (9, [(13, .call [] (.d (.int .i64 4096)) []), (18, .call [] (.d (.int .i64 lim)) []), (25, .call [] (.d (.int .i64 (4096 + s.length))) []), (41, .call [] (.d (.int .i64 lim)) []), (43, .call [] (.d (.int .i64 lim)) []), (48, .call [] (.d (.int .i64 ((s.length : Int) - k + 1))) [])])], G := [(30, gAns (.d (rqD w0))), (9, gYes)]}) (subs := []) (ws := []) (ρ := []) (by kernel_rfl) ?_
  have w1 : IntKind.i64.wrap n = n := by rw [IntKind.wrap_i64]; omega
  have w2 : IntKind.i64.wrap ((s.length : Int) + 1) = s.length + 1 := by rw [IntKind.wrap_i64]; omega
  have w3 : IntKind.i64.wrap ((s.length : Int) - k) = s.length - k := by rw [IntKind.wrap_i64]; omega
  have w4 : IntKind.i64.wrap (lim - 1) = lim - 1 := by rw [IntKind.wrap_i64]; omega
  have w5 : IntKind.i64.wrap (4096 + (k : Int)) = lim := by rw [IntKind.wrap_i64]; omega
  have w6 : IntKind.i64.wrap (4096 + (s.length : Int)) = 4096 + s.length := by rw [IntKind.wrap_i64]; omega
  have w7 : IntKind.i64.wrap ((s.length : Int) - k + 1) = s.length - k + 1 := by rw [IntKind.wrap_i64]; omega
  have cb := new30
  have hl := congrArg List.length htu
  rw [List.length_append] at hl
  simp only [w1, w2, w3, w4, w5, w6, w7, hk, htu]
  repeat' (first | with_reducible exact True.intro | with_reducible refine And.intro ?_ ?_ | with_reducible refine condP_dec (fun _ => ?_) (fun _ => ?_) | with_reducible refine condP_eq (fun _ => ?_) (fun _ => ?_) | with_reducible refine condP_ne (fun _ => ?_) (fun _ => ?_) | with_reducible refine condP_not (condP_dec (fun _ => ?_) (fun _ => ?_)) | with_reducible refine condP_not (condP_eq (fun _ => ?_) (fun _ => ?_)) | with_reducible refine condP_not (condP_intro (fun _ => ?_) (fun _ => ?_)) | with_reducible refine condP_intro (fun _ => ?_) (fun _ => ?_))
  all_goals first | exact c1 | exact c2 | exact c3 | exact c4 | exact c5 | exact c6 | exact c7 | exact c8 | exact c9 | exact ca | exact cb | exact aw9 | rfl | omega | exact dno (by omega) | (refine congrArg D.bool ?_; simp; done) | skip

theorem recvqRoom_ok (x0 : D) (s0 : ∃ ds, CK.hasL [.str] ds ∧ (if false then x0 = .agg ds else ds = [x0])) (x1 : D) (s1 : ∃ ds, CK.hasL [.int .u8] ds ∧ (if false then x1 = .agg ds else ds = [x1])) :
    FnOK Try.prog 7 [.d x0, .d x1] [] (.d (.bool true)) [] := by
  obtain ⟨s, rfl, -⟩ := has_str (ck1 s0)
  obtain ⟨n, rfl, n0, n1⟩ := has_u8 (ck1 s1)
  by_cases hs : s.length ≤ 200
  · have hk0 : 0 ≤ n.tmod ((s.length : Int) + 1) := by rw [Int.tmod_eq_emod_of_nonneg n0]; exact Int.emod_nonneg _ (by omega)
    have hk1 : n.tmod ((s.length : Int) + 1) < (s.length : Int) + 1 := by rw [Int.tmod_eq_emod_of_nonneg n0]; exact Int.emod_lt_of_pos _ (by omega)
    obtain ⟨k, hk⟩ := Int.eq_ofNat_of_zero_le hk0
    have hkl : k ≤ s.length := by omega
    have hld : (s.drop k).length = s.length - k := List.length_drop ..
    have held : ∀ (r : List UInt8), rHeld ⟨(s.length : Int), r, []⟩ = r.length := fun r => by rw [rHeld_def]; rfl
    have ok0 : Ok w0 := flat_ok (n := 0) (by omega) (by simp)
    have okS := flat_ok (n := s.length) (r := s) (by omega) (by omega)
    have okA := flat_ok (n := s.length) (r := s.drop k) (by omega) (by omega)
    have rb0 := ok_rb ok0 (by decide)
    have rbS := ok_rb okS (by rw [held]; omega)
    have rbA := ok_rb okA (by rw [held]; omega)
    have hlA := flat_lim (n := s.length) (r := s.drop k) (by omega)
    have hlS := flat_lim (n := s.length) (r := s) (by omega)
    have hlB := flat_lim (n := s.length) (r := []) (by omega)
    have hlm : rLim ⟨(s.length : Int), s.drop k, []⟩ = (k : Int) + 4096 := by rw [hlA, hld]; omega
    have e1 := put11 w0 rb0 (by decide) 0 s (by show rHeld w0 + _ < _; rw [show rHeld w0 = 0 from rfl]; omega)
    rw [put_all s hs] at e1
    have e2 := read13 _ rbS (by show 0 < 1000000; omega) (k : Int)
    rw [read_flat (by omega) (by omega)] at e2
    have e3 := read13 _ rbA (by show 0 < 1000000; omega) ((s.length - k : Nat) : Int)
    rw [read_flat (by omega) (by omega)] at e3
    have e3d : List.drop (s.length - k) (s.drop k) = [] := List.drop_eq_nil_iff.2 (by omega)
    have e3t : List.take (s.length - k) (s.drop k) = s.drop k := List.take_of_length_le (by omega)
    rw [e3d, e3t, show ((s.length - k : Nat) : Int) = (s.length : Int) - k by omega] at e3
    have e4 := lim26 _ okA.b.1 okA.b.2.1 (by show (s.drop k).length < _; omega)
    have e5 := put11 _ rbA (by show 0 < 900000; omega) (rLim ⟨(s.length : Int), s.drop k, []⟩) [120] (by rw [held]; simp; omega)
    rw [put_over hs (by omega) _ rfl] at e5
    have e6 := put11 _ rbA (by show 0 < 900000; omega) (rLim ⟨(s.length : Int), s.drop k, []⟩ - 1) [120, 121] (by rw [held]; simp; omega)
    rw [put_last hs (by omega) _ rfl] at e6
    have e7 := lim26 _ okS.b.1 okS.b.2.1 (by show s.length < _; omega)
    rw [hlS, show (s.length : Int) - s.length + 4096 = 4096 by omega] at e7
    have e8 := lim26 ⟨(s.length : Int), [], []⟩ (by show (0 : Int) ≤ s.length; omega) (by show (s.length : Int) ≤ _; omega) (by show 0 < _; omega)
    rw [hlB, show (s.length : Int) - (([] : List UInt8).length : Int) + 4096 = 4096 + s.length by simp; omega] at e8
    have e9 := lim26 ⟨(s.length : Int), s.drop k, [⟨rLim ⟨(s.length : Int), s.drop k, []⟩ - 1, [120]⟩]⟩ (by show (0 : Int) ≤ s.length; omega) (by show (s.length : Int) ≤ _; omega) (by show (s.drop k).length < _; omega)
    have hh : rHeld ⟨(s.length : Int), s.drop k, [⟨rLim ⟨(s.length : Int), s.drop k, []⟩ - 1, [120]⟩]⟩ = s.length - k + 1 := by rw [rHeld_def]; show (s.drop k).length + 1 = _; omega
    have ea := held28 ⟨(s.length : Int), s.drop k, [⟨rLim ⟨(s.length : Int), s.drop k, []⟩ - 1, [120]⟩]⟩ (by rw [hh]; omega) (by show 1 < _; omega)
    rw [hh, show ((s.length - k + 1 : Nat) : Int) = (s.length : Int) - k + 1 by omega] at ea
    exact room7 s hs n n0 n1 k hk hkl _ _ _ _ _ _ _ (List.take_append_drop k s) hlm e1 e2 e3 e4 e5 e6 e7 e8 e9 ea
  · exact room7n s hs _
end Go.Proofs.Ytmnglolholdmaaa
