/-
laws 31: the law of changes. No condition beyond the statement's own.
-/
import Derived.Test.YtoagghehabceaaaS6
set_option linter.unusedSimpArgs false
set_option linter.unusedVariables false
namespace Go.Proofs.Ytoagghehabceaaa
open Sx Go.RowKit

def gAns (a : AV) : List D → Option (AV × List Ob) := fun _ => some (a, [])
theorem set_len (l : List Pk) (n : Nat) (y : Pk) : (l.set n y).length = l.length := List.length_set ..
theorem lens (x : Ls) (p : Pk) (n a b k t : Int) (q : Bool) : (lSend x p).l.length ≤ x.l.length + 1 ∧ (lTake x n q).l.length ≤ x.l.length ∧ (lDrop x n).l.length ≤ x.l.length ∧ (lFlip x n a b).l.length ≤ x.l.length ∧ (lCut x k).l.length ≤ x.l.length ∧ (lAll x k t).l.length ≤ x.l.length ∧ (lAllP x k t).length ≤ x.l.length := by
  have hc : ∀ m, (cutAt x.l m).length ≤ x.l.length := by intro m; unfold cutAt; simp; omega
  refine ⟨?_, ?_, ?_, ?_, ?_, ?_, ?_⟩
  · unfold lSend; split <;> simp
  · unfold lTake; split
    · cases q
      · exact hc _
      · exact Nat.le_refl _
    · exact Nat.le_refl _
  · unfold lDrop; split
    · exact hc _
    · exact Nat.le_refl _
  · unfold lFlip; split <;> simp
  · unfold lCut; split
    · exact List.length_filter_le _ _
    · exact Nat.le_refl _
  · unfold lAll; split
    · exact List.length_filter_le _ _
    · exact Nat.le_refl _
  · unfold lAllP; split
    · exact List.length_filter_le _ _
    · simp
set_option maxRecDepth 100000 in
set_option maxHeartbeats 1000000 in
theorem chg3 (st : Ls) (p : Pk) (n0 n1 n2 : Int) (m1 : n1 < 9223372036854775808) (hl : st.l.length ≤ 210) (hd : ∀ y ∈ st.l, y.d.length ≤ 200) (hp : p.d.length ≤ 200) (h6 : FnOK Try.prog 6 [.d (lsD st)] [] (.d (.bool true)) []) (q : Bool) (hq : (bitsI .and .i64 n1 1 == 1) = q) (A C E G W L : Ls) (T : Pk) (U : List Pk) (i j k : Bool) (w : Int) (hA : lSend st p = A) (hi : lSendB st p = i) (hC : lTake st n0 q = C) (hT : lTakeP st n0 = T) (hj : lThere st n0 = j) (hE : lDrop st n0 = E) (hG : lFlip st n0 n1 n2 = G) (hk : lFlipB st n0 n1 n2 = k) (hW : lCut st p.p = W) (hw : lCutN st p.p = w) (hL : lAll st p.p p.t = L) (hU : lAllP st p.p p.t = U) : FnOK Try.prog 3 ([.d (lsD st), .d (pkD p), .d (.agg [.int .i64 n0, .int .i64 n1, .int .i64 n2])]) ([]) (.d (.bool true)) ([]) := by
  refine fnOK_wp (p := (FnOK Try.prog (6 : Nat) [AV.d (D.agg [D.sl (List.map pkD st.l), D.int IntKind.i64 st.s, D.int IntKind.i64 st.c])] [] (AV.d (D.bool true)) []) ∧ ((D.bool false = D.bool false) ∧ ((D.bool (decide ((↑p.d.length : Int) > (200 : Int))) = D.bool false) ∧ ((FnOK Try.prog (8 : Nat) [AV.d (D.agg [D.sl (List.map pkD st.l), D.int IntKind.i64 st.s, D.int IntKind.i64 st.c])] [] (AV.d (D.agg [D.sl (List.map pkD st.l), D.int IntKind.i64 st.s, D.int IntKind.i64 st.c])) []) ∧ (((0 : Int) ≤ (1 : Int) ∧ (1 : Int) < (↑(3 : Nat) : Int)) ∧ ((FnOK Try.prog (9 : Nat) [AV.d (D.agg [D.sl (List.map pkD st.l), D.int IntKind.i64 st.s, D.int IntKind.i64 st.c]), AV.d (D.agg [D.int IntKind.i64 p.p, D.int IntKind.i64 p.t, D.str p.d])] [] (AV.tup [AV.d (D.agg [D.sl (List.map pkD A.l), D.int IntKind.i64 A.s, D.int IntKind.i64 A.c]), AV.d (D.bool i)]) []) ∧ ((FnOK Try.prog (10 : Nat) [AV.d (D.agg [D.sl (List.map pkD st.l), D.int IntKind.i64 st.s, D.int IntKind.i64 st.c]), AV.d (D.agg [D.int IntKind.i64 p.p, D.int IntKind.i64 p.t, D.str p.d])] [] (AV.tup [AV.d (D.agg [D.sl (List.map pkD A.l), D.int IntKind.i64 A.s, D.int IntKind.i64 A.c]), AV.d (D.bool i)]) []) ∧ (((0 : Int) ≤ (0 : Int) ∧ (0 : Int) < (↑(3 : Nat) : Int)) ∧ ((FnOK Try.prog (11 : Nat) [AV.d (D.agg [D.sl (List.map pkD st.l), D.int IntKind.i64 st.s, D.int IntKind.i64 st.c]), AV.d (D.int IntKind.i64 n0), AV.d (D.bool (bitsI BinOp.and IntKind.i64 n1 (1 : Int) == (1 : Int)))] [] (AV.tup [AV.d (D.agg [D.sl (List.map pkD C.l), D.int IntKind.i64 C.s, D.int IntKind.i64 C.c]), AV.d (D.agg [D.int IntKind.i64 T.p, D.int IntKind.i64 T.t, D.str T.d]), AV.d (D.bool j)]) []) ∧ (((0 : Int) ≤ (0 : Int) ∧ (0 : Int) < (↑(3 : Nat) : Int)) ∧ ((FnOK Try.prog (12 : Nat) [AV.d (D.agg [D.sl (List.map pkD st.l), D.int IntKind.i64 st.s, D.int IntKind.i64 st.c]), AV.d (D.int IntKind.i64 n0), AV.d (D.bool (bitsI BinOp.and IntKind.i64 n1 (1 : Int) == (1 : Int)))] [] (AV.tup [AV.d (D.agg [D.sl (List.map pkD C.l), D.int IntKind.i64 C.s, D.int IntKind.i64 C.c]), AV.d (D.agg [D.int IntKind.i64 T.p, D.int IntKind.i64 T.t, D.str T.d]), AV.d (D.bool j)]) []) ∧ (((0 : Int) ≤ (0 : Int) ∧ (0 : Int) < (↑(3 : Nat) : Int)) ∧ ((FnOK Try.prog (13 : Nat) [AV.d (D.agg [D.sl (List.map pkD st.l), D.int IntKind.i64 st.s, D.int IntKind.i64 st.c]), AV.d (D.int IntKind.i64 n0)] [] (AV.tup [AV.d (D.agg [D.sl (List.map pkD E.l), D.int IntKind.i64 E.s, D.int IntKind.i64 E.c]), AV.d (D.bool j)]) []) ∧ (((0 : Int) ≤ (0 : Int) ∧ (0 : Int) < (↑(3 : Nat) : Int)) ∧ ((FnOK Try.prog (14 : Nat) [AV.d (D.agg [D.sl (List.map pkD st.l), D.int IntKind.i64 st.s, D.int IntKind.i64 st.c]), AV.d (D.int IntKind.i64 n0)] [] (AV.tup [AV.d (D.agg [D.sl (List.map pkD E.l), D.int IntKind.i64 E.s, D.int IntKind.i64 E.c]), AV.d (D.bool j)]) []) ∧ (((0 : Int) ≤ (0 : Int) ∧ (0 : Int) < (↑(3 : Nat) : Int)) ∧ (((0 : Int) ≤ (1 : Int) ∧ (1 : Int) < (↑(3 : Nat) : Int)) ∧ (((0 : Int) ≤ (2 : Int) ∧ (2 : Int) < (↑(3 : Nat) : Int)) ∧ ((FnOK Try.prog (15 : Nat) [AV.d (D.agg [D.sl (List.map pkD st.l), D.int IntKind.i64 st.s, D.int IntKind.i64 st.c]), AV.d (D.int IntKind.i64 n0), AV.d (D.int IntKind.i64 n1), AV.d (D.int IntKind.i64 n2)] [] (AV.tup [AV.d (D.agg [D.sl (List.map pkD G.l), D.int IntKind.i64 G.s, D.int IntKind.i64 G.c]), AV.d (D.bool k)]) []) ∧ (((0 : Int) ≤ (0 : Int) ∧ (0 : Int) < (↑(3 : Nat) : Int)) ∧ (((0 : Int) ≤ (1 : Int) ∧ (1 : Int) < (↑(3 : Nat) : Int)) ∧ (((0 : Int) ≤ (2 : Int) ∧ (2 : Int) < (↑(3 : Nat) : Int)) ∧ ((FnOK Try.prog (16 : Nat) [AV.d (D.agg [D.sl (List.map pkD st.l), D.int IntKind.i64 st.s, D.int IntKind.i64 st.c]), AV.d (D.int IntKind.i64 n0), AV.d (D.int IntKind.i64 n1), AV.d (D.int IntKind.i64 n2)] [] (AV.tup [AV.d (D.agg [D.sl (List.map pkD G.l), D.int IntKind.i64 G.s, D.int IntKind.i64 G.c]), AV.d (D.bool k)]) []) ∧ ((FnOK Try.prog (17 : Nat) [AV.d (D.agg [D.sl (List.map pkD st.l), D.int IntKind.i64 st.s, D.int IntKind.i64 st.c]), AV.d (D.int IntKind.i64 p.p)] [] (AV.tup [AV.d (D.agg [D.sl (List.map pkD W.l), D.int IntKind.i64 W.s, D.int IntKind.i64 W.c]), AV.d (D.int IntKind.i64 w)]) []) ∧ ((FnOK Try.prog (18 : Nat) [AV.d (D.agg [D.sl (List.map pkD st.l), D.int IntKind.i64 st.s, D.int IntKind.i64 st.c]), AV.d (D.int IntKind.i64 p.p)] [] (AV.tup [AV.d (D.agg [D.sl (List.map pkD W.l), D.int IntKind.i64 W.s, D.int IntKind.i64 W.c]), AV.d (D.int IntKind.i64 w)]) []) ∧ ((FnOK Try.prog (19 : Nat) [AV.d (D.agg [D.sl (List.map pkD st.l), D.int IntKind.i64 st.s, D.int IntKind.i64 st.c]), AV.d (D.int IntKind.i64 p.p), AV.d (D.int IntKind.i64 p.t)] [] (AV.tup [AV.d (D.agg [D.sl (List.map pkD L.l), D.int IntKind.i64 L.s, D.int IntKind.i64 L.c]), AV.d (D.sl (List.map pkD U))]) []) ∧ ((FnOK Try.prog (20 : Nat) [AV.d (D.agg [D.sl (List.map pkD st.l), D.int IntKind.i64 st.s, D.int IntKind.i64 st.c]), AV.d (D.int IntKind.i64 p.p), AV.d (D.int IntKind.i64 p.t)] [] (AV.tup [AV.d (D.agg [D.sl (List.map pkD L.l), D.int IntKind.i64 L.s, D.int IntKind.i64 L.c]), AV.d (D.sl (List.map pkD U))]) []) ∧ ((FnOK Try.prog (22 : Nat) [AV.d (D.agg [D.sl (List.map pkD A.l), D.int IntKind.i64 A.s, D.int IntKind.i64 A.c])] [] (AV.d (D.agg [D.sl (List.map pkD A.l), D.int IntKind.i64 A.s, D.int IntKind.i64 A.c])) []) ∧ ((FnOK Try.prog (21 : Nat) [AV.d (D.agg [D.sl (List.map pkD A.l), D.int IntKind.i64 A.s, D.int IntKind.i64 A.c]), AV.d (D.agg [D.sl (List.map pkD A.l), D.int IntKind.i64 A.s, D.int IntKind.i64 A.c])] [] (AV.d (D.bool true)) []) ∧ ((D.bool false = D.bool false) ∧ (((D.bool !i == i) = D.bool false) ∧ ((FnOK Try.prog (22 : Nat) [AV.d (D.agg [D.sl (List.map pkD C.l), D.int IntKind.i64 C.s, D.int IntKind.i64 C.c])] [] (AV.d (D.agg [D.sl (List.map pkD C.l), D.int IntKind.i64 C.s, D.int IntKind.i64 C.c])) []) ∧ ((FnOK Try.prog (21 : Nat) [AV.d (D.agg [D.sl (List.map pkD C.l), D.int IntKind.i64 C.s, D.int IntKind.i64 C.c]), AV.d (D.agg [D.sl (List.map pkD C.l), D.int IntKind.i64 C.s, D.int IntKind.i64 C.c])] [] (AV.d (D.bool true)) []) ∧ ((D.bool false = D.bool false) ∧ (((D.bool !(T.p == T.p && (T.t == T.t && (T.d == T.d && true)))) = D.bool false) ∧ (((D.bool !j == j) = D.bool false) ∧ ((FnOK Try.prog (22 : Nat) [AV.d (D.agg [D.sl (List.map pkD E.l), D.int IntKind.i64 E.s, D.int IntKind.i64 E.c])] [] (AV.d (D.agg [D.sl (List.map pkD E.l), D.int IntKind.i64 E.s, D.int IntKind.i64 E.c])) []) ∧ ((FnOK Try.prog (21 : Nat) [AV.d (D.agg [D.sl (List.map pkD E.l), D.int IntKind.i64 E.s, D.int IntKind.i64 E.c]), AV.d (D.agg [D.sl (List.map pkD E.l), D.int IntKind.i64 E.s, D.int IntKind.i64 E.c])] [] (AV.d (D.bool true)) []) ∧ ((D.bool false = D.bool false) ∧ (condP (!j == j) ((AV.d (D.bool false) = AV.d (D.bool true)) ∧ (True)) ((FnOK Try.prog (22 : Nat) [AV.d (D.agg [D.sl (List.map pkD G.l), D.int IntKind.i64 G.s, D.int IntKind.i64 G.c])] [] (AV.d (D.agg [D.sl (List.map pkD G.l), D.int IntKind.i64 G.s, D.int IntKind.i64 G.c])) []) ∧ ((FnOK Try.prog (21 : Nat) [AV.d (D.agg [D.sl (List.map pkD G.l), D.int IntKind.i64 G.s, D.int IntKind.i64 G.c]), AV.d (D.agg [D.sl (List.map pkD G.l), D.int IntKind.i64 G.s, D.int IntKind.i64 G.c])] [] (AV.d (D.bool true)) []) ∧ ((D.bool true = D.bool true) ∧ ((D.bool (k == k) = D.bool true) ∧ ((FnOK Try.prog (22 : Nat) [AV.d (D.agg [D.sl (List.map pkD W.l), D.int IntKind.i64 W.s, D.int IntKind.i64 W.c])] [] (AV.d (D.agg [D.sl (List.map pkD W.l), D.int IntKind.i64 W.s, D.int IntKind.i64 W.c])) []) ∧ ((FnOK Try.prog (21 : Nat) [AV.d (D.agg [D.sl (List.map pkD W.l), D.int IntKind.i64 W.s, D.int IntKind.i64 W.c]), AV.d (D.agg [D.sl (List.map pkD W.l), D.int IntKind.i64 W.s, D.int IntKind.i64 W.c])] [] (AV.d (D.bool true)) []) ∧ ((D.bool true = D.bool true) ∧ ((D.bool (w == w) = D.bool true) ∧ ((FnOK Try.prog (22 : Nat) [AV.d (D.agg [D.sl (List.map pkD L.l), D.int IntKind.i64 L.s, D.int IntKind.i64 L.c])] [] (AV.d (D.agg [D.sl (List.map pkD L.l), D.int IntKind.i64 L.s, D.int IntKind.i64 L.c])) []) ∧ ((FnOK Try.prog (21 : Nat) [AV.d (D.agg [D.sl (List.map pkD L.l), D.int IntKind.i64 L.s, D.int IntKind.i64 L.c]), AV.d (D.agg [D.sl (List.map pkD L.l), D.int IntKind.i64 L.s, D.int IntKind.i64 L.c])] [] (AV.d (D.bool true)) []) ∧ ((D.bool true = D.bool true) ∧ ((FnOK Try.prog (24 : Nat) [AV.d (D.sl (List.map pkD U))] [] (AV.d (D.sl (List.map pkD U))) []) ∧ ((FnOK Try.prog (23 : Nat) [AV.d (D.sl (List.map pkD U)), AV.d (D.sl (List.map pkD U))] [] (AV.d (D.bool true)) []) ∧ ((D.bool true = D.bool true) ∧ ((FnOK Try.prog (25 : Nat) [AV.d (D.agg [D.sl (List.map pkD st.l), D.int IntKind.i64 st.s, D.int IntKind.i64 st.c])] [] (AV.d (D.int IntKind.i64 (lChk st))) []) ∧ ((FnOK Try.prog (26 : Nat) [AV.d (D.agg [D.sl (List.map pkD st.l), D.int IntKind.i64 st.s, D.int IntKind.i64 st.c])] [] (AV.d (D.int IntKind.i64 (lChk st))) []) ∧ ((D.bool (lChk st == lChk st) = D.bool true) ∧ ((FnOK Try.prog (27 : Nat) [AV.d (D.agg [D.sl (List.map pkD st.l), D.int IntKind.i64 st.s, D.int IntKind.i64 st.c]), AV.d (D.agg [D.sl (List.map pkD A.l), D.int IntKind.i64 A.s, D.int IntKind.i64 A.c])] [] (AV.d (D.bool (decide (st = A)))) []) ∧ ((FnOK Try.prog (21 : Nat) [AV.d (D.agg [D.sl (List.map pkD st.l), D.int IntKind.i64 st.s, D.int IntKind.i64 st.c]), AV.d (D.agg [D.sl (List.map pkD A.l), D.int IntKind.i64 A.s, D.int IntKind.i64 A.c])] [] (AV.d (D.bool (decide (st = A)))) []) ∧ ((D.bool (decide (st = A) == decide (st = A)) = D.bool true) ∧ ((FnOK Try.prog (22 : Nat) [AV.d (D.agg [D.sl (List.map pkD st.l), D.int IntKind.i64 st.s, D.int IntKind.i64 st.c])] [] (AV.d (D.agg [D.sl (List.map pkD st.l), D.int IntKind.i64 st.s, D.int IntKind.i64 st.c])) []) ∧ ((FnOK Try.prog (21 : Nat) [AV.d (D.agg [D.sl (List.map pkD st.l), D.int IntKind.i64 st.s, D.int IntKind.i64 st.c]), AV.d (D.agg [D.sl (List.map pkD st.l), D.int IntKind.i64 st.s, D.int IntKind.i64 st.c])] [] (AV.d (D.bool true)) []) ∧ ((D.bool true = D.bool true) ∧ ((FnOK Try.prog (7 : Nat) [] [] (AV.d (D.bool true)) []) ∧ ((AV.d (D.bool true) = AV.d (D.bool true)) ∧ (True)))))))))))))))))))))))))))))))))))))))))))))))))))))))))))))))))) (h := {chain := true, G := [(6, gYes), (8, gId), (22, gId), (24, gId), (21, gYes), (23, gYes), (7, gYes), (27, gAns (.d (.bool (decide (st = A))))), (25, gAns (.d (.int .i64 (lChk st)))), (26, gAns (.d (.int .i64 (lChk st)))), (9, gAns (.tup [.d (lsD A), .d (.bool i)])), (10, gAns (.tup [.d (lsD A), .d (.bool i)])), (11, gAns (.tup [.d (lsD C), .d (pkD T), .d (.bool j)])), (12, gAns (.tup [.d (lsD C), .d (pkD T), .d (.bool j)])), (13, gAns (.tup [.d (lsD E), .d (.bool j)])), (14, gAns (.tup [.d (lsD E), .d (.bool j)])), (15, gAns (.tup [.d (lsD G), .d (.bool k)])), (16, gAns (.tup [.d (lsD G), .d (.bool k)])), (17, gAns (.tup [.d (lsD W), .d (.int .i64 w)])), (18, gAns (.tup [.d (lsD W), .d (.int .i64 w)])), (19, gAns (.tup [.d (lsD L), .d (.sl (U.map pkD))])), (20, gAns (.tup [.d (lsD L), .d (.sl (U.map pkD))]))], H := [(1, [(7, .val (.bool false))]), (19, [(45, .call [] (.d (.bool (decide (st = A)))) [])])]}) (subs := []) (ws := []) (ρ := []) (by kernel_rfl) ?_
  have b := lens st p n0 n1 n2 p.p p.t q
  rw [hA, hC, hE, hG, hW, hL, hU] at b
  obtain ⟨b1, b2, b3, b4, b5, b6, b7⟩ := b
  have hs : ∀ x : Ls, x.l.length ≤ 211 → FnOK Try.prog 21 [.d (lsD x), .d (lsD x)] [] (.d (.bool true)) [] := by
    intro x hx
    have h := same21 x x (by omega)
    rw [decide_eq_true rfl] at h
    exact h
  have hb : ∀ x : Ls, x.l.length ≤ 211 → FnOK Try.prog 22 [.d (lsD x)] [] (.d (lsD x)) [] := fun x hx => back22 x (by omega)
  have c0 := own8 st (by omega)
  have c1 := send9 st (by omega) p
  have c2 := send10 st (by omega) p
  have c3 := take11 st (by omega) n0 q
  have c4 := take12 st (by omega) n0 q
  have c5 := drop13 st (by omega) n0
  have c6 := drop14 st (by omega) n0
  have c7 := (flip_both st (by omega) (fun y hy => by have := hd y hy; omega) n0 n1 n2 m1).1
  have c8 := (flip_both st (by omega) (fun y hy => by have := hd y hy; omega) n0 n1 n2 m1).2
  have c9 := cut17 st (by omega) p.p
  have c10 := cut18 st (by omega) p.p
  have c11 := all19 st (by omega) p.p p.t
  have c12 := all20 st (by omega) p.p p.t
  have c13 := same27 st A (by omega)
  have c14 := same21 st A (by omega)
  have c15 := chk25 st (by omega)
  have c16 := chk26 st (by omega)
  have c17 := eq23 U U (by omega)
  rw [decide_eq_true rfl] at c17
  have c18 := packets24 U (by omega)
  rw [hA, hi] at c1 c2
  rw [hC, hT, hj] at c3 c4
  rw [hE, hj] at c5 c6
  rw [hG, hk] at c7 c8
  rw [hW, hw] at c9 c10
  rw [hL, hU] at c11 c12
  simp only [hq]
  repeat' (first | with_reducible exact True.intro | with_reducible refine And.intro ?_ ?_ | with_reducible refine condP_dec (fun _ => ?_) (fun _ => ?_) | with_reducible refine condP_eq (fun _ => ?_) (fun _ => ?_) | with_reducible refine condP_ne (fun _ => ?_) (fun _ => ?_) | with_reducible refine condP_not (condP_dec (fun _ => ?_) (fun _ => ?_)) | with_reducible refine condP_not (condP_eq (fun _ => ?_) (fun _ => ?_)) | with_reducible refine condP_not (condP_intro (fun _ => ?_) (fun _ => ?_)) | with_reducible refine condP_intro (fun _ => ?_) (fun _ => ?_))
  all_goals first | exact c0 | exact c1 | exact c2 | exact c3 | exact c4 | exact c5 | exact c6 | exact c7 | exact c8 | exact c9 | exact c10 | exact c11 | exact c12 | exact c13 | exact c14 | exact c15 | exact c16 | exact c17 | exact c18 | exact h6 | exact aw7 | exact hs _ (by omega) | exact hb _ (by omega) | rfl | exact dno (by omega) | decide | (refine congrArg D.bool ?_; simp; done) | (exfalso; simp_all; done) | skip

set_option maxRecDepth 100000 in
set_option maxHeartbeats 1000000 in
theorem chg3n (st : Ls) (p : Pk) (n0 n1 n2 : Int) (h6 : FnOK Try.prog 6 [.d (lsD st)] [] (.d (.bool false)) []) : FnOK Try.prog 3 ([.d (lsD st), .d (pkD p), .d (.agg [.int .i64 n0, .int .i64 n1, .int .i64 n2])]) ([]) (.d (.bool true)) ([]) := by
  refine fnOK_wp (p := (FnOK Try.prog (6 : Nat) [AV.d (D.agg [D.sl (List.map pkD st.l), D.int IntKind.i64 st.s, D.int IntKind.i64 st.c])] [] (AV.d (D.bool false)) []) ∧ ((D.bool true = D.bool true) ∧ ((FnOK Try.prog (7 : Nat) [] [] (AV.d (D.bool true)) []) ∧ ((AV.d (D.bool true) = AV.d (D.bool true)) ∧ (True))))) (h := {G := [(6, gAns (.d (.bool false))), (7, gYes)]}) (subs := []) (ws := []) (ρ := []) (by kernel_rfl) ?_
  repeat' (first | with_reducible exact True.intro | with_reducible refine And.intro ?_ ?_ | with_reducible refine condP_dec (fun _ => ?_) (fun _ => ?_) | with_reducible refine condP_eq (fun _ => ?_) (fun _ => ?_) | with_reducible refine condP_ne (fun _ => ?_) (fun _ => ?_) | with_reducible refine condP_not (condP_dec (fun _ => ?_) (fun _ => ?_)) | with_reducible refine condP_not (condP_eq (fun _ => ?_) (fun _ => ?_)) | with_reducible refine condP_not (condP_intro (fun _ => ?_) (fun _ => ?_)) | with_reducible refine condP_intro (fun _ => ?_) (fun _ => ?_))
  all_goals first | exact h6 | exact aw7 | rfl | skip

set_option maxRecDepth 100000 in
set_option maxHeartbeats 1000000 in
theorem chg3p (st : Ls) (p : Pk) (n0 n1 n2 : Int) (hp : ¬p.d.length ≤ 200) (h6 : FnOK Try.prog 6 [.d (lsD st)] [] (.d (.bool true)) []) : FnOK Try.prog 3 ([.d (lsD st), .d (pkD p), .d (.agg [.int .i64 n0, .int .i64 n1, .int .i64 n2])]) ([]) (.d (.bool true)) ([]) := by
  refine fnOK_wp (p := (FnOK Try.prog (6 : Nat) [AV.d (D.agg [D.sl (List.map pkD st.l), D.int IntKind.i64 st.s, D.int IntKind.i64 st.c])] [] (AV.d (D.bool true)) []) ∧ ((D.bool false = D.bool false) ∧ ((D.bool (decide ((↑p.d.length : Int) > (200 : Int))) = D.bool true) ∧ ((FnOK Try.prog (7 : Nat) [] [] (AV.d (D.bool true)) []) ∧ ((AV.d (D.bool true) = AV.d (D.bool true)) ∧ (True)))))) (h := {G := [(6, gAns (.d (.bool true))), (7, gYes)], H := [(1, [(7, .val (.bool true))])]}) (subs := []) (ws := []) (ρ := []) (by kernel_rfl) ?_
  repeat' (first | with_reducible exact True.intro | with_reducible refine And.intro ?_ ?_ | with_reducible refine condP_dec (fun _ => ?_) (fun _ => ?_) | with_reducible refine condP_eq (fun _ => ?_) (fun _ => ?_) | with_reducible refine condP_ne (fun _ => ?_) (fun _ => ?_) | with_reducible refine condP_not (condP_dec (fun _ => ?_) (fun _ => ?_)) | with_reducible refine condP_not (condP_eq (fun _ => ?_) (fun _ => ?_)) | with_reducible refine condP_not (condP_intro (fun _ => ?_) (fun _ => ?_)) | with_reducible refine condP_intro (fun _ => ?_) (fun _ => ?_))
  all_goals first | exact h6 | exact aw7 | rfl | exact dyes (by omega) | skip

theorem pk_of (x0 : D) (s0 : ∃ ds, CK.hasL [.int .i64, .int .i64, .str] ds ∧ (if true = true then x0 = .agg ds else ds = [x0])) : ∃ x : Pk, x0 = pkD x ∧ (-9223372036854775808 ≤ x.p ∧ x.p < 9223372036854775808) ∧ x.d.length ≤ maxLen := by
  obtain ⟨ds, rfl, h0⟩ := ckA s0
  obtain ⟨d1, r1, rfl, g1, h1⟩ := hasL_cons h0
  obtain ⟨v1, rfl, a1, b1⟩ := has_i64 g1
  obtain ⟨d2, r2, rfl, g2, h2⟩ := hasL_cons h1
  obtain ⟨v2, rfl, -, -⟩ := has_i64 g2
  obtain ⟨d3, r3, rfl, g3, h3⟩ := hasL_cons h2
  obtain ⟨v3, rfl, l3⟩ := has_str g3
  obtain rfl := hasL_nil h3
  exact ⟨⟨v1, v2, v3⟩, rfl, ⟨a1, b1⟩, l3⟩
theorem pks_of {x : D} (h : (CK.sl true [.int .i64, .int .i64, .str]).has x) : ∃ l : List Pk, x = .sl (l.map pkD) ∧ l.length ≤ maxLen ∧ ∀ p ∈ l, (-9223372036854775808 ≤ p.p ∧ p.p < 9223372036854775808) ∧ p.d.length ≤ maxLen :=
  has_slOf pkD (fun p => (-9223372036854775808 ≤ p.p ∧ p.p < 9223372036854775808) ∧ p.d.length ≤ maxLen) h pk_of
theorem ls_of (x0 : D) (s0 : ∃ ds, CK.hasL [.sl true [.int .i64, .int .i64, .str], .int .i64, .int .i64] ds ∧ (if true = true then x0 = .agg ds else ds = [x0])) : ∃ x : Ls, x0 = lsD x := by
  obtain ⟨ds, rfl, h0⟩ := ckA s0
  obtain ⟨d1, r1, rfl, g1, h1⟩ := hasL_cons h0
  obtain ⟨l, rfl, -, -⟩ := pks_of g1
  obtain ⟨d2, r2, rfl, g2, h2⟩ := hasL_cons h1
  obtain ⟨v2, rfl, -, -⟩ := has_i64 g2
  obtain ⟨d3, r3, rfl, g3, h3⟩ := hasL_cons h2
  obtain ⟨v3, rfl, -, -⟩ := has_i64 g3
  obtain rfl := hasL_nil h3
  exact ⟨⟨l, v2, v3⟩, rfl⟩
theorem lossyChanges_ok (x0 : D) (s0 : ∃ ds, CK.hasL [.sl true [.int .i64, .int .i64, .str], .int .i64, .int .i64] ds ∧ (if true then x0 = .agg ds else ds = [x0])) (x1 : D) (s1 : ∃ ds, CK.hasL [.int .i64, .int .i64, .str] ds ∧ (if true then x1 = .agg ds else ds = [x1])) (x2 : D) (s2 : ∃ ds, CK.hasL [.int .i64, .int .i64, .int .i64] ds ∧ (if true then x2 = .agg ds else ds = [x2])) :
    FnOK Try.prog 3 [.d x0, .d x1, .d x2] [] (.d (.bool true)) [] := by
  obtain ⟨st, rfl⟩ := ls_of x0 s0
  obtain ⟨p, rfl, -⟩ := pk_of x1 s1
  obtain ⟨ds, rfl, h0⟩ := ckA s2
  obtain ⟨d1, r1, rfl, g1, h1⟩ := hasL_cons h0
  obtain ⟨n0, rfl, -, -⟩ := has_i64 g1
  obtain ⟨d2, r2, rfl, g2, h2⟩ := hasL_cons h1
  obtain ⟨n1, rfl, -, m1⟩ := has_i64 g2
  obtain ⟨d3, r3, rfl, g3, h3⟩ := hasL_cons h2
  obtain ⟨n2, rfl, -, -⟩ := has_i64 g3
  obtain rfl := hasL_nil h3
  rcases few6 st with ⟨hl, hd, h⟩ | h
  · by_cases hp : p.d.length ≤ 200
    · exact chg3 st p n0 n1 n2 m1 hl hd hp h _ rfl _ _ _ _ _ _ _ _ _ _ _ _ rfl rfl rfl rfl rfl rfl rfl rfl rfl rfl rfl rfl
    · exact chg3p st p n0 n1 n2 hp h
  · exact chg3n st p n0 n1 n2 h
end Go.Proofs.Ytoagghehabceaaa
