/-
laws 31: what the document does to a state; parting; sameness; handing over.
-/
import Derived.Test.YtoagghehabceaaaS3
set_option linter.unusedSimpArgs false
set_option linter.unusedVariables false
namespace Go.Proofs.Ytoagghehabceaaa
open Sx Go.RowKit

/-! ### The document's sending, dropping, taking -/
set_option maxRecDepth 100000 in
set_option maxHeartbeats 1000000 in
theorem send10y (x : Ls) (p : Pk) (h : lSendB x p = true) (hw : lWrong p = false) (hc : lChk x = 0) : FnOK Try.prog 10 ([.d (lsD x), .d (pkD p)]) ([]) (.tup [.d (lsD ⟨x.l ++ [p], x.s + 1, x.c⟩), .d (.bool true)]) ([]) := by
  refine fnOK_wp (p := (FnOK Try.prog (26 : Nat) [AV.d (D.agg [D.sl (List.map pkD x.l), D.int IntKind.i64 x.s, D.int IntKind.i64 x.c])] [] (AV.d (D.int IntKind.i64 (0 : Int))) []) ∧ ((D.bool false = D.bool false) ∧ ((D.bool (decide ((↑(List.map pkD x.l).length : Int) ≥ (200 : Int))) = D.bool false) ∧ ((D.bool false = D.bool false) ∧ ((FnOK Try.prog (31 : Nat) [AV.d (D.agg [D.int IntKind.i64 p.p, D.int IntKind.i64 p.t, D.str p.d])] [] (AV.d (D.bool true)) []) ∧ ((D.bool false = D.bool false) ∧ ((D.bool (decide (x.s ≥ (1099511627776 : Int))) = D.bool false) ∧ ((((0 : Nat) + (List.map pkD x.l).length) * (32 : Nat) ≤ (140737488355328 : Nat)) ∧ ((∀ (e : D), e ∈ List.map pkD x.l → e.cells.length = (3 : Nat)) ∧ (((([] ++ List.map pkD x.l).length + [D.agg (List.take (3 : Nat) [D.int IntKind.i64 p.p, D.int IntKind.i64 p.t, D.str p.d])].length) * (32 : Nat) ≤ (140737488355328 : Nat)) ∧ ((∀ (e : D), e ∈ chunk (3 : Nat) (1 : Nat) [D.int IntKind.i64 p.p, D.int IntKind.i64 p.t, D.str p.d] → e.cells.length = (3 : Nat)) ∧ ((AV.tup [AV.d (D.agg [D.sl ([] ++ List.map pkD x.l ++ [D.agg (List.take (3 : Nat) [D.int IntKind.i64 p.p, D.int IntKind.i64 p.t, D.str p.d])]), D.int IntKind.i64 (IntKind.i64.wrap (x.s + (1 : Int))), D.int IntKind.i64 x.c]), AV.d (D.bool true)] = AV.tup [AV.d (D.agg [D.sl (List.map pkD (Ls.mk (x.l ++ [p]) (x.s + (1 : Int)) x.c).l), D.int IntKind.i64 (Ls.mk (x.l ++ [p]) (x.s + (1 : Int)) x.c).s, D.int IntKind.i64 (Ls.mk (x.l ++ [p]) (x.s + (1 : Int)) x.c).c]), AV.d (D.bool true)]) ∧ (True))))))))))))) (h := {G := [(31, fun _ => some (.d (.bool true), [])), (26, fun _ => some (.d (.int .i64 0), []))], H := [(1, [(7, .val (.bool false)), (17, .val (.bool false))])]}) (subs := []) (ws := []) (ρ := []) (by kernel_rfl) ?_
  have h0 : lChk x = 0 ∧ lWrong p = false ∧ x.l.length < 200 ∧ x.s < 1099511627776 := of_decide_eq_true h
  obtain ⟨-, -, h1, h2⟩ := h0
  obtain ⟨-, -, c3, c4, c5, c6⟩ := chk_zero.1 hc
  have k1 := right31 p
  have k2 := chk26 x (by omega)
  rw [hw] at k1
  rw [hc] at k2
  have hs : IntKind.i64.wrap (x.s + 1) = x.s + 1 := by rw [IntKind.wrap_i64]; omega
  simp only [List.length_map, hs]
  rw [List.map_append]
  repeat' (first | with_reducible exact True.intro | with_reducible refine And.intro ?_ ?_ | with_reducible refine condP_dec (fun _ => ?_) (fun _ => ?_) | with_reducible refine condP_eq (fun _ => ?_) (fun _ => ?_) | with_reducible refine condP_ne (fun _ => ?_) (fun _ => ?_) | with_reducible refine condP_not (condP_dec (fun _ => ?_) (fun _ => ?_)) | with_reducible refine condP_not (condP_eq (fun _ => ?_) (fun _ => ?_)) | with_reducible refine condP_not (condP_intro (fun _ => ?_) (fun _ => ?_)) | with_reducible refine condP_intro (fun _ => ?_) (fun _ => ?_))
  all_goals first | exact k1 | exact k2 | rfl | (refine congrArg D.bool ?_; simp; omega) | (simp; omega) | exact pkD_cells _ | (simp [chunk, pkD, D.cells]; done) | skip

set_option maxRecDepth 100000 in
set_option maxHeartbeats 1000000 in
theorem send10n (x : Ls) (hl : x.l.length < 1073741824) (p : Pk) (h : lSendB x p = false) : FnOK Try.prog 10 ([.d (lsD x), .d (pkD p)]) ([]) (.tup [.d (lsD x), .d (.bool false)]) ([]) := by
  refine fnOK_wp (p := condP (lChk x != (0 : Int)) ((FnOK Try.prog (26 : Nat) [AV.d (D.agg [D.sl (List.map pkD x.l), D.int IntKind.i64 x.s, D.int IntKind.i64 x.c])] [] (AV.d (D.int IntKind.i64 (lChk x))) []) ∧ ((D.bool (lChk x != (0 : Int)) = D.bool true) ∧ ((D.bool true = D.bool true) ∧ ((D.bool true = D.bool true) ∧ ((AV.tup [AV.d (D.agg [D.sl (List.map pkD x.l), D.int IntKind.i64 x.s, D.int IntKind.i64 x.c]), AV.d (D.bool false)] = AV.tup [AV.d (D.agg [D.sl (List.map pkD x.l), D.int IntKind.i64 x.s, D.int IntKind.i64 x.c]), AV.d (D.bool false)]) ∧ (True)))))) (condP (decide ((↑(List.map pkD x.l).length : Int) ≥ (200 : Int))) ((FnOK Try.prog (26 : Nat) [AV.d (D.agg [D.sl (List.map pkD x.l), D.int IntKind.i64 x.s, D.int IntKind.i64 x.c])] [] (AV.d (D.int IntKind.i64 (lChk x))) []) ∧ ((D.bool (lChk x != (0 : Int)) = D.bool false) ∧ ((D.bool (decide ((↑(List.map pkD x.l).length : Int) ≥ (200 : Int))) = D.bool true) ∧ ((D.bool true = D.bool true) ∧ ((AV.tup [AV.d (D.agg [D.sl (List.map pkD x.l), D.int IntKind.i64 x.s, D.int IntKind.i64 x.c]), AV.d (D.bool false)] = AV.tup [AV.d (D.agg [D.sl (List.map pkD x.l), D.int IntKind.i64 x.s, D.int IntKind.i64 x.c]), AV.d (D.bool false)]) ∧ (True)))))) (condP (!!lWrong p) ((FnOK Try.prog (26 : Nat) [AV.d (D.agg [D.sl (List.map pkD x.l), D.int IntKind.i64 x.s, D.int IntKind.i64 x.c])] [] (AV.d (D.int IntKind.i64 (lChk x))) []) ∧ ((D.bool (lChk x != (0 : Int)) = D.bool false) ∧ ((D.bool (decide ((↑(List.map pkD x.l).length : Int) ≥ (200 : Int))) = D.bool false) ∧ ((FnOK Try.prog (31 : Nat) [AV.d (D.agg [D.int IntKind.i64 p.p, D.int IntKind.i64 p.t, D.str p.d])] [] (AV.d (D.bool !lWrong p)) []) ∧ (((D.bool !!lWrong p) = D.bool true) ∧ ((AV.tup [AV.d (D.agg [D.sl (List.map pkD x.l), D.int IntKind.i64 x.s, D.int IntKind.i64 x.c]), AV.d (D.bool false)] = AV.tup [AV.d (D.agg [D.sl (List.map pkD x.l), D.int IntKind.i64 x.s, D.int IntKind.i64 x.c]), AV.d (D.bool false)]) ∧ (True))))))) ((FnOK Try.prog (26 : Nat) [AV.d (D.agg [D.sl (List.map pkD x.l), D.int IntKind.i64 x.s, D.int IntKind.i64 x.c])] [] (AV.d (D.int IntKind.i64 (lChk x))) []) ∧ ((D.bool (lChk x != (0 : Int)) = D.bool false) ∧ ((D.bool (decide ((↑(List.map pkD x.l).length : Int) ≥ (200 : Int))) = D.bool false) ∧ ((FnOK Try.prog (31 : Nat) [AV.d (D.agg [D.int IntKind.i64 p.p, D.int IntKind.i64 p.t, D.str p.d])] [] (AV.d (D.bool !lWrong p)) []) ∧ (((D.bool !!lWrong p) = D.bool false) ∧ (condP (decide (x.s ≥ (1099511627776 : Int))) ((AV.tup [AV.d (D.agg [D.sl (List.map pkD x.l), D.int IntKind.i64 x.s, D.int IntKind.i64 x.c]), AV.d (D.bool false)] = AV.tup [AV.d (D.agg [D.sl (List.map pkD x.l), D.int IntKind.i64 x.s, D.int IntKind.i64 x.c]), AV.d (D.bool false)]) ∧ (True)) ((((0 : Nat) + (List.map pkD x.l).length) * (32 : Nat) ≤ (140737488355328 : Nat)) ∧ ((∀ (e : D), e ∈ List.map pkD x.l → e.cells.length = (3 : Nat)) ∧ (((([] ++ List.map pkD x.l).length + [D.agg (List.take (3 : Nat) [D.int IntKind.i64 p.p, D.int IntKind.i64 p.t, D.str p.d])].length) * (32 : Nat) ≤ (140737488355328 : Nat)) ∧ ((∀ (e : D), e ∈ chunk (3 : Nat) (1 : Nat) [D.int IntKind.i64 p.p, D.int IntKind.i64 p.t, D.str p.d] → e.cells.length = (3 : Nat)) ∧ ((AV.tup [AV.d (D.agg [D.sl ([] ++ List.map pkD x.l ++ [D.agg (List.take (3 : Nat) [D.int IntKind.i64 p.p, D.int IntKind.i64 p.t, D.str p.d])]), D.int IntKind.i64 (IntKind.i64.wrap (x.s + (1 : Int))), D.int IntKind.i64 x.c]), AV.d (D.bool true)] = AV.tup [AV.d (D.agg [D.sl (List.map pkD x.l), D.int IntKind.i64 x.s, D.int IntKind.i64 x.c]), AV.d (D.bool false)]) ∧ (True))))))))))))))) (h := {G := [(31, fun _ => some (.d (.bool (!lWrong p)), [])), (26, gChk25 x)]}) (subs := []) (ws := []) (ρ := []) (by kernel_rfl) ?_
  have h0 : ¬(lChk x = 0 ∧ lWrong p = false ∧ x.l.length < 200 ∧ x.s < 1099511627776) := of_decide_eq_false h
  have k1 := right31 p
  have k2 := chk26 x hl
  simp only [List.length_map]
  repeat' (first | with_reducible exact True.intro | with_reducible refine And.intro ?_ ?_ | with_reducible refine condP_dec (fun _ => ?_) (fun _ => ?_) | with_reducible refine condP_eq (fun _ => ?_) (fun _ => ?_) | with_reducible refine condP_ne (fun _ => ?_) (fun _ => ?_) | with_reducible refine condP_not (condP_dec (fun _ => ?_) (fun _ => ?_)) | with_reducible refine condP_not (condP_eq (fun _ => ?_) (fun _ => ?_)) | with_reducible refine condP_not (condP_intro (fun _ => ?_) (fun _ => ?_)) | with_reducible refine condP_intro (fun _ => ?_) (fun _ => ?_))
  all_goals first | exact k1 | exact k2 | rfl | (simp_all; done) | (exfalso; simp_all; done) | (exfalso; refine h0 ⟨by assumption, ?_, by omega, by omega⟩; (cases hw : lWrong p <;> simp_all); done) | skip

theorem send10 (x : Ls) (hl : x.l.length < 1073741824) (p : Pk) : FnOK Try.prog 10 [.d (lsD x), .d (pkD p)] [] (.tup [.d (lsD (lSend x p)), .d (.bool (lSendB x p))]) [] := by
  unfold lSend
  cases h : lSendB x p
  · exact send10n x hl p h
  · have h0 : lChk x = 0 ∧ lWrong p = false ∧ x.l.length < 200 ∧ x.s < 1099511627776 := of_decide_eq_true h
    exact send10y x p h h0.2.1 h0.1
set_option maxRecDepth 100000 in
set_option maxHeartbeats 1000000 in
theorem drop14y (x : Ls) (n : Nat) (y : Pk) (hn : x.l[n]? = some y) (ht : lThere x n = true) (hc : lChk x = 0) : FnOK Try.prog 14 ([.d (lsD x), .d (.int .i64 n)]) ([]) (.tup [.d (lsD ⟨cutAt x.l n, x.s, x.c⟩), .d (.bool true)]) ([]) := by
  refine fnOK_wp (p := (FnOK Try.prog (33 : Nat) [AV.d (D.agg [D.sl (List.map pkD x.l), D.int IntKind.i64 x.s, D.int IntKind.i64 x.c]), AV.d (D.int IntKind.i64 (↑n : Int))] [] (AV.d (D.bool true)) []) ∧ (((0 : Int) ≤ (0 : Int) ∧ (0 : Int) ≤ (↑n : Int) ∧ (↑n : Int) ≤ (↑(List.map pkD x.l).length : Int)) ∧ ((∀ (e : D), e ∈ List.map pkD x.l → e.cells.length = (3 : Nat)) ∧ ((((0 : Nat) + (List.drop (0 : Nat) (List.take (↑n : Int).toNat (List.map pkD x.l))).length) * (32 : Nat) ≤ (140737488355328 : Nat)) ∧ ((∀ (e : D), e ∈ List.drop (0 : Nat) (List.take (↑n : Int).toNat (List.map pkD x.l)) → e.cells.length = (3 : Nat)) ∧ (((0 : Int) ≤ IntKind.i64.wrap ((↑n : Int) + (1 : Int)) ∧ IntKind.i64.wrap ((↑n : Int) + (1 : Int)) ≤ (↑(List.map pkD x.l).length : Int) ∧ (↑(List.map pkD x.l).length : Int) ≤ (↑(List.map pkD x.l).length : Int)) ∧ ((∀ (e : D), e ∈ List.map pkD x.l → e.cells.length = (3 : Nat)) ∧ (((([] ++ List.drop (0 : Nat) (List.take (↑n : Int).toNat (List.map pkD x.l))).length + (List.drop (IntKind.i64.wrap ((↑n : Int) + (1 : Int))).toNat (List.take (↑(List.map pkD x.l).length : Int).toNat (List.map pkD x.l))).length) * (32 : Nat) ≤ (140737488355328 : Nat)) ∧ ((∀ (e : D), e ∈ List.drop (IntKind.i64.wrap ((↑n : Int) + (1 : Int))).toNat (List.take (↑(List.map pkD x.l).length : Int).toNat (List.map pkD x.l)) → e.cells.length = (3 : Nat)) ∧ ((AV.tup [AV.d (D.agg [D.sl ([] ++ List.drop (0 : Nat) (List.take (↑n : Int).toNat (List.map pkD x.l)) ++ List.drop (IntKind.i64.wrap ((↑n : Int) + (1 : Int))).toNat (List.take (↑(List.map pkD x.l).length : Int).toNat (List.map pkD x.l))), D.int IntKind.i64 x.s, D.int IntKind.i64 x.c]), AV.d (D.bool true)] = AV.tup [AV.d (D.agg [D.sl (List.map pkD (Ls.mk (cutAt x.l n) x.s x.c).l), D.int IntKind.i64 (Ls.mk (cutAt x.l n) x.s x.c).s, D.int IntKind.i64 (Ls.mk (cutAt x.l n) x.s x.c).c]), AV.d (D.bool true)]) ∧ (True))))))))))) (h := {H := [(1, [(2, .call [] (.d (.bool true)) [])])]}) (subs := []) (ws := []) (ρ := []) (by kernel_rfl) ?_
  obtain ⟨c1, -, c3, c4, c5, c6⟩ := chk_zero.1 hc
  have hm := get_lt hn
  have k1 := there33 x (by omega) n
  rw [ht] at k1
  have hi := inc_i64 (j := n) (by omega)
  simp only [List.length_map, hi]
  have e1 : ((x.l.map pkD).take ((n : Int)).toNat).drop 0 = (x.l.take n).map pkD := by simp
  have e2 : ((x.l.map pkD).take ((x.l.length : Int)).toNat).drop (((n + 1 : Nat) : Int)).toNat = (x.l.drop (n + 1)).map pkD := by
    rw [Int.toNat_natCast, Int.toNat_natCast, List.map_drop, List.take_of_length_le (by simp)]
  rw [e1, e2]
  have e3 : cutAt x.l n = x.l.take n ++ x.l.drop (n + 1) := rfl
  rw [e3, List.map_append]
  repeat' (first | with_reducible exact True.intro | with_reducible refine And.intro ?_ ?_ | with_reducible refine condP_dec (fun _ => ?_) (fun _ => ?_) | with_reducible refine condP_eq (fun _ => ?_) (fun _ => ?_) | with_reducible refine condP_ne (fun _ => ?_) (fun _ => ?_) | with_reducible refine condP_not (condP_dec (fun _ => ?_) (fun _ => ?_)) | with_reducible refine condP_not (condP_eq (fun _ => ?_) (fun _ => ?_)) | with_reducible refine condP_not (condP_intro (fun _ => ?_) (fun _ => ?_)) | with_reducible refine condP_intro (fun _ => ?_) (fun _ => ?_))
  all_goals first | exact k1 | rfl | omega | exact pkD_cells _ | (simp; omega) | skip

set_option maxRecDepth 100000 in
set_option maxHeartbeats 1000000 in
theorem drop14n (x : Ls) (hl : x.l.length < 1073741824) (n : Int) (ht : lThere x n = false) : FnOK Try.prog 14 ([.d (lsD x), .d (.int .i64 n)]) ([]) (.tup [.d (lsD x), .d (.bool false)]) ([]) := by
  refine fnOK_wp (p := (FnOK Try.prog (33 : Nat) [AV.d (D.agg [D.sl (List.map pkD x.l), D.int IntKind.i64 x.s, D.int IntKind.i64 x.c]), AV.d (D.int IntKind.i64 n)] [] (AV.d (D.bool false)) []) ∧ ((AV.tup [AV.d (D.agg [D.sl (List.map pkD x.l), D.int IntKind.i64 x.s, D.int IntKind.i64 x.c]), AV.d (D.bool false)] = AV.tup [AV.d (D.agg [D.sl (List.map pkD x.l), D.int IntKind.i64 x.s, D.int IntKind.i64 x.c]), AV.d (D.bool false)]) ∧ (True))) (h := {H := [(1, [(2, .call [] (.d (.bool false)) [])])]}) (subs := []) (ws := []) (ρ := []) (by kernel_rfl) ?_
  have k1 := there33 x hl n
  rw [ht] at k1
  repeat' (first | with_reducible exact True.intro | with_reducible refine And.intro ?_ ?_ | with_reducible refine condP_dec (fun _ => ?_) (fun _ => ?_) | with_reducible refine condP_eq (fun _ => ?_) (fun _ => ?_) | with_reducible refine condP_ne (fun _ => ?_) (fun _ => ?_) | with_reducible refine condP_not (condP_dec (fun _ => ?_) (fun _ => ?_)) | with_reducible refine condP_not (condP_eq (fun _ => ?_) (fun _ => ?_)) | with_reducible refine condP_not (condP_intro (fun _ => ?_) (fun _ => ?_)) | with_reducible refine condP_intro (fun _ => ?_) (fun _ => ?_))
  all_goals first | exact k1 | rfl | skip

theorem drop14 (x : Ls) (hl : x.l.length < 1073741824) (n : Int) : FnOK Try.prog 14 [.d (lsD x), .d (.int .i64 n)] [] (.tup [.d (lsD (lDrop x n)), .d (.bool (lThere x n))]) [] := by
  unfold lDrop
  cases h : lThere x n
  · exact drop14n x hl n h
  · obtain ⟨m, y, rfl, h1, h2⟩ := there_in h
    exact drop14y x m y h1 h (there_iff.1 h).1
set_option maxRecDepth 100000 in
set_option maxHeartbeats 1000000 in
theorem take12k (x : Ls) (n : Nat) (y : Pk) (hn : x.l[n]? = some y) (ht : lThere x n = true) (hc : lChk x = 0) : FnOK Try.prog 12 ([.d (lsD x), .d (.int .i64 n), .d (.bool true)]) ([]) (.tup [.d (lsD ⟨x.l, x.s, min (x.c + 1) 1099511627776⟩), .d (pkD y), .d (.bool true)]) ([]) := by
  refine fnOK_wp (p := (FnOK Try.prog (33 : Nat) [AV.d (D.agg [D.sl (List.map pkD x.l), D.int IntKind.i64 x.s, D.int IntKind.i64 x.c]), AV.d (D.int IntKind.i64 (↑n : Int))] [] (AV.d (D.bool true)) []) ∧ (((0 : Int) ≤ (↑n : Int)) ∧ (((List.map pkD x.l)[(↑n : Int).toNat]? = some (D.agg [D.int IntKind.i64 y.p, D.int IntKind.i64 y.t, D.str y.d])) ∧ ((AV.tup [AV.d (D.agg [D.sl (List.map pkD x.l), D.int IntKind.i64 x.s, D.int IntKind.i64 (min (1099511627776 : Int) (IntKind.i64.wrap (x.c + (1 : Int))))]), AV.d (D.agg [D.int IntKind.i64 y.p, D.int IntKind.i64 y.t, D.str y.d]), AV.d (D.bool true)] = AV.tup [AV.d (D.agg [D.sl (List.map pkD (Ls.mk x.l x.s (min (x.c + (1 : Int)) (1099511627776 : Int))).l), D.int IntKind.i64 (Ls.mk x.l x.s (min (x.c + (1 : Int)) (1099511627776 : Int))).s, D.int IntKind.i64 (Ls.mk x.l x.s (min (x.c + (1 : Int)) (1099511627776 : Int))).c]), AV.d (D.agg [D.int IntKind.i64 y.p, D.int IntKind.i64 y.t, D.str y.d]), AV.d (D.bool true)]) ∧ (True))))) (h := {H := [(1, [(2, .call [] (.d (.bool true)) [])])], els := [(17, .el (pkD y))]}) (subs := []) (ws := []) (ρ := []) (by kernel_rfl) ?_
  obtain ⟨c1, -, c3, c4, c5, c6⟩ := chk_zero.1 hc
  have hm := get_lt hn
  have k1 := there33 x (by omega) n
  rw [ht] at k1
  have hs : IntKind.i64.wrap (x.c + 1) = x.c + 1 := by rw [IntKind.wrap_i64]; omega
  have hmin : min 1099511627776 (x.c + 1) = min (x.c + 1) 1099511627776 := Int.min_comm _ _
  simp only [hs, hmin]
  repeat' (first | with_reducible exact True.intro | with_reducible refine And.intro ?_ ?_ | with_reducible refine condP_dec (fun _ => ?_) (fun _ => ?_) | with_reducible refine condP_eq (fun _ => ?_) (fun _ => ?_) | with_reducible refine condP_ne (fun _ => ?_) (fun _ => ?_) | with_reducible refine condP_not (condP_dec (fun _ => ?_) (fun _ => ?_)) | with_reducible refine condP_not (condP_eq (fun _ => ?_) (fun _ => ?_)) | with_reducible refine condP_not (condP_intro (fun _ => ?_) (fun _ => ?_)) | with_reducible refine condP_intro (fun _ => ?_) (fun _ => ?_))
  all_goals first | exact k1 | exact el_map hn rfl | rfl | omega | skip

set_option maxRecDepth 100000 in
set_option maxHeartbeats 1000000 in
theorem take12d (x : Ls) (n : Nat) (y : Pk) (hn : x.l[n]? = some y) (ht : lThere x n = true) (hc : lChk x = 0) : FnOK Try.prog 12 ([.d (lsD x), .d (.int .i64 n), .d (.bool false)]) ([]) (.tup [.d (lsD ⟨cutAt x.l n, x.s, min (x.c + 1) 1099511627776⟩), .d (pkD y), .d (.bool true)]) ([]) := by
  refine fnOK_wp (p := (FnOK Try.prog (33 : Nat) [AV.d (D.agg [D.sl (List.map pkD x.l), D.int IntKind.i64 x.s, D.int IntKind.i64 x.c]), AV.d (D.int IntKind.i64 (↑n : Int))] [] (AV.d (D.bool true)) []) ∧ (((0 : Int) ≤ (↑n : Int)) ∧ (((List.map pkD x.l)[(↑n : Int).toNat]? = some (D.agg [D.int IntKind.i64 y.p, D.int IntKind.i64 y.t, D.str y.d])) ∧ ((FnOK Try.prog (14 : Nat) [AV.d (D.agg [D.sl (List.map pkD x.l), D.int IntKind.i64 x.s, D.int IntKind.i64 x.c]), AV.d (D.int IntKind.i64 (↑n : Int))] [] (AV.tup [AV.d (D.agg [D.sl (List.map pkD (Ls.mk (cutAt x.l n) x.s x.c).l), D.int IntKind.i64 (Ls.mk (cutAt x.l n) x.s x.c).s, D.int IntKind.i64 (Ls.mk (cutAt x.l n) x.s x.c).c]), AV.d (D.bool true)]) []) ∧ ((AV.tup [AV.d (D.agg [D.sl (List.map pkD (Ls.mk (cutAt x.l n) x.s x.c).l), D.int IntKind.i64 (Ls.mk (cutAt x.l n) x.s x.c).s, D.int IntKind.i64 (min (1099511627776 : Int) (IntKind.i64.wrap ((Ls.mk (cutAt x.l n) x.s x.c).c + (1 : Int))))]), AV.d (D.agg [D.int IntKind.i64 y.p, D.int IntKind.i64 y.t, D.str y.d]), AV.d (D.bool true)] = AV.tup [AV.d (D.agg [D.sl (List.map pkD (Ls.mk (cutAt x.l n) x.s (min (x.c + (1 : Int)) (1099511627776 : Int))).l), D.int IntKind.i64 (Ls.mk (cutAt x.l n) x.s (min (x.c + (1 : Int)) (1099511627776 : Int))).s, D.int IntKind.i64 (Ls.mk (cutAt x.l n) x.s (min (x.c + (1 : Int)) (1099511627776 : Int))).c]), AV.d (D.agg [D.int IntKind.i64 y.p, D.int IntKind.i64 y.t, D.str y.d]), AV.d (D.bool true)]) ∧ (True)))))) (h := {H := [(1, [(2, .call [] (.d (.bool true)) [])]), (5, [(2, .call [] (.tup [.d (lsD ⟨cutAt x.l n, x.s, x.c⟩), .d (.bool true)]) [])])], els := [(17, .el (pkD y))]}) (subs := []) (ws := []) (ρ := []) (by kernel_rfl) ?_
  obtain ⟨c1, -, c3, c4, c5, c6⟩ := chk_zero.1 hc
  have hm := get_lt hn
  have k1 := there33 x (by omega) n
  rw [ht] at k1
  have hs : IntKind.i64.wrap (x.c + 1) = x.c + 1 := by rw [IntKind.wrap_i64]; omega
  have hmin : min 1099511627776 (x.c + 1) = min (x.c + 1) 1099511627776 := Int.min_comm _ _
  simp only [hs, hmin]
  have k2 := drop14y x n y hn ht hc
  repeat' (first | with_reducible exact True.intro | with_reducible refine And.intro ?_ ?_ | with_reducible refine condP_dec (fun _ => ?_) (fun _ => ?_) | with_reducible refine condP_eq (fun _ => ?_) (fun _ => ?_) | with_reducible refine condP_ne (fun _ => ?_) (fun _ => ?_) | with_reducible refine condP_not (condP_dec (fun _ => ?_) (fun _ => ?_)) | with_reducible refine condP_not (condP_eq (fun _ => ?_) (fun _ => ?_)) | with_reducible refine condP_not (condP_intro (fun _ => ?_) (fun _ => ?_)) | with_reducible refine condP_intro (fun _ => ?_) (fun _ => ?_))
  all_goals first | exact k1 | exact k2 | exact el_map hn rfl | rfl | omega | skip

set_option maxRecDepth 100000 in
set_option maxHeartbeats 1000000 in
theorem take12n (x : Ls) (hl : x.l.length < 1073741824) (n : Int) (k : Bool) (ht : lThere x n = false) : FnOK Try.prog 12 ([.d (lsD x), .d (.int .i64 n), .d (.bool k)]) ([]) (.tup [.d (lsD x), .d (pkD pk0), .d (.bool false)]) ([]) := by
  refine fnOK_wp (p := (FnOK Try.prog (33 : Nat) [AV.d (D.agg [D.sl (List.map pkD x.l), D.int IntKind.i64 x.s, D.int IntKind.i64 x.c]), AV.d (D.int IntKind.i64 n)] [] (AV.d (D.bool false)) []) ∧ ((AV.tup [AV.d (D.agg [D.sl (List.map pkD x.l), D.int IntKind.i64 x.s, D.int IntKind.i64 x.c]), AV.d (D.agg [D.int IntKind.i64 (0 : Int), D.int IntKind.i64 (0 : Int), D.str []]), AV.d (D.bool false)] = AV.tup [AV.d (D.agg [D.sl (List.map pkD x.l), D.int IntKind.i64 x.s, D.int IntKind.i64 x.c]), AV.d (D.agg [D.int IntKind.i64 (0 : Int), D.int IntKind.i64 (0 : Int), D.str []]), AV.d (D.bool false)]) ∧ (True))) (h := {H := [(1, [(2, .call [] (.d (.bool false)) [])])]}) (subs := []) (ws := []) (ρ := []) (by kernel_rfl) ?_
  have k1 := there33 x hl n
  rw [ht] at k1
  repeat' (first | with_reducible exact True.intro | with_reducible refine And.intro ?_ ?_ | with_reducible refine condP_dec (fun _ => ?_) (fun _ => ?_) | with_reducible refine condP_eq (fun _ => ?_) (fun _ => ?_) | with_reducible refine condP_ne (fun _ => ?_) (fun _ => ?_) | with_reducible refine condP_not (condP_dec (fun _ => ?_) (fun _ => ?_)) | with_reducible refine condP_not (condP_eq (fun _ => ?_) (fun _ => ?_)) | with_reducible refine condP_not (condP_intro (fun _ => ?_) (fun _ => ?_)) | with_reducible refine condP_intro (fun _ => ?_) (fun _ => ?_))
  all_goals first | exact k1 | rfl | skip

theorem take12 (x : Ls) (hl : x.l.length < 1073741824) (n : Int) (k : Bool) : FnOK Try.prog 12 [.d (lsD x), .d (.int .i64 n), .d (.bool k)] [] (.tup [.d (lsD (lTake x n k)), .d (pkD (lTakeP x n)), .d (.bool (lThere x n))]) [] := by
  cases h : lThere x n
  · have e : lTakeP x n = pk0 := by unfold lTakeP; rw [h]; rfl
    rw [e]
    unfold lTake
    rw [h]
    exact take12n x hl n k h
  · obtain ⟨m, y, rfl, h1, h2⟩ := there_in h
    rw [h2]
    unfold lTake
    rw [h]
    cases k
    · exact take12d x m y h1 h (there_iff.1 h).1
    · exact take12k x m y h1 h (there_iff.1 h).1
/-! ### Parting -/
set_option maxRecDepth 100000 in
set_option maxHeartbeats 1000000 in
theorem cut36 (x : Pk) (k : Int) : FnOK Try.prog 36 ([.d (pkD x), .ptr 0 0]) ([.box [.d (.int .i64 k)]]) (.d (.bool (onPath k x))) ([.box [.d (.int .i64 k)]]) := by
  refine fnOK_wp (p := (AV.d (D.bool (x.p == k)) = AV.d (D.bool (onPath k x))) ∧ ((Ob.box [AV.d (D.int IntKind.i64 k)] = Ob.box [AV.d (D.int IntKind.i64 k)]) ∧ (True))) (h := {}) (subs := []) (ws := []) (ρ := []) (by kernel_rfl) ?_
  repeat' (first | with_reducible exact True.intro | with_reducible refine And.intro ?_ ?_ | with_reducible refine condP_dec (fun _ => ?_) (fun _ => ?_) | with_reducible refine condP_eq (fun _ => ?_) (fun _ => ?_) | with_reducible refine condP_ne (fun _ => ?_) (fun _ => ?_) | with_reducible refine condP_not (condP_dec (fun _ => ?_) (fun _ => ?_)) | with_reducible refine condP_not (condP_eq (fun _ => ?_) (fun _ => ?_)) | with_reducible refine condP_not (condP_intro (fun _ => ?_) (fun _ => ?_)) | with_reducible refine condP_intro (fun _ => ?_) (fun _ => ?_))
  all_goals first | rfl | skip

set_option maxRecDepth 100000 in
set_option maxHeartbeats 1000000 in
theorem all37 (x : Pk) (k t : Int) : FnOK Try.prog 37 ([.d (pkD x), .ptr 0 0, .ptr 1 0]) ([.box [.d (.int .i64 k)], .box [.d (.int .i64 t)]]) (.d (.bool (onWay k t x))) ([.box [.d (.int .i64 k)], .box [.d (.int .i64 t)]]) := by
  refine fnOK_wp (p := condP (x.p == k) ((D.bool (x.p == k) = D.bool true) ∧ ((AV.d (D.bool (x.t == t)) = AV.d (D.bool (onWay k t x))) ∧ ((Ob.box [AV.d (D.int IntKind.i64 k)] = Ob.box [AV.d (D.int IntKind.i64 k)]) ∧ ((Ob.box [AV.d (D.int IntKind.i64 t)] = Ob.box [AV.d (D.int IntKind.i64 t)]) ∧ (True))))) ((D.bool (x.p == k) = D.bool false) ∧ ((AV.d (D.bool false) = AV.d (D.bool (onWay k t x))) ∧ ((Ob.box [AV.d (D.int IntKind.i64 k)] = Ob.box [AV.d (D.int IntKind.i64 k)]) ∧ ((Ob.box [AV.d (D.int IntKind.i64 t)] = Ob.box [AV.d (D.int IntKind.i64 t)]) ∧ (True)))))) (h := {}) (subs := []) (ws := []) (ρ := []) (by kernel_rfl) ?_
  unfold onWay
  repeat' (first | with_reducible exact True.intro | with_reducible refine And.intro ?_ ?_ | with_reducible refine condP_dec (fun _ => ?_) (fun _ => ?_) | with_reducible refine condP_eq (fun _ => ?_) (fun _ => ?_) | with_reducible refine condP_ne (fun _ => ?_) (fun _ => ?_) | with_reducible refine condP_not (condP_dec (fun _ => ?_) (fun _ => ?_)) | with_reducible refine condP_not (condP_eq (fun _ => ?_) (fun _ => ?_)) | with_reducible refine condP_not (condP_intro (fun _ => ?_) (fun _ => ?_)) | with_reducible refine condP_intro (fun _ => ?_) (fun _ => ?_))
  all_goals first | rfl | (simp_all; done) | skip

def I35 (l : List Pk) (f : AV) (ob : List (Nat × Ob)) (ys no : List Pk) (j : Nat) : St := ⟨[(1, f), (4, .own 4 3), (5, .own 5 3), (8, .d (.sl (l.map pkD))), (9, .d (.int .i64 l.length)), (10, .d (.int .i64 j))], ob ++ [(4, .row 3 (ys.map pkD)), (5, .row 3 (no.map pkD))]⟩
def f36 : AV := .fn 36 [.ptr 0 0]
def f37 : AV := .fn 37 [.ptr 0 0, .ptr 1 0]
def o36 (k : Int) : List (Nat × Ob) := [(0, .box [.d (.int .i64 k)])]
def o37 (k t : Int) : List (Nat × Ob) := [(0, .box [.d (.int .i64 k)]), (1, .box [.d (.int .i64 t)])]
set_option maxRecDepth 100000 in
set_option maxHeartbeats 1000000 in
theorem r35py (l : List Pk) (hl : l.length < 1073741824) (ys no : List Pk) (hy : ys.length < 1073741824) (hno : no.length < 1073741824) (j : Nat) (x : Pk) (hn : l[j]? = some x) (k : Int) (hx : onPath k x = true) : Runs Try.prog 1 (loopN Try.prog 35 0) (St.as (I35 l f36 (o36 k) ys no j) 28) (.normal) (St.as (I35 l f36 (o36 k) (ys ++ [x]) no (j+1)) 28) := by
  refine round_wp (p := condP (decide ((↑j : Int) < (↑l.length : Int))) (((0 : Int) ≤ (↑j : Int)) ∧ (((List.map pkD l)[(↑j : Int).toNat]? = some (D.agg [D.int IntKind.i64 x.p, D.int IntKind.i64 x.t, D.str x.d])) ∧ ((FnOK Try.prog (36 : Nat) [AV.d (D.agg [D.int IntKind.i64 x.p, D.int IntKind.i64 x.t, D.str x.d]), AV.ptr (0 : Nat) (0 : Nat)] [Ob.box [AV.d (D.int IntKind.i64 k)]] (AV.d (D.bool true)) [Ob.box [AV.d (D.int IntKind.i64 k)]]) ∧ ((((List.map pkD ys).length + [D.agg (List.take (3 : Nat) [D.int IntKind.i64 x.p, D.int IntKind.i64 x.t, D.str x.d])].length) * (32 : Nat) ≤ (140737488355328 : Nat)) ∧ ((∀ (e : D), e ∈ chunk (3 : Nat) (1 : Nat) [D.int IntKind.i64 x.p, D.int IntKind.i64 x.t, D.str x.d] → e.cells.length = (3 : Nat)) ∧ ((AV.fn (36 : Nat) [AV.ptr (0 : Nat) (0 : Nat)] = AV.fn (36 : Nat) [AV.ptr (0 : Nat) (0 : Nat)]) ∧ ((AV.own (1160 : Nat) (3 : Nat) = AV.own (1160 : Nat) (3 : Nat)) ∧ ((AV.own (5 : Nat) (3 : Nat) = AV.own (5 : Nat) (3 : Nat)) ∧ ((AV.d (D.sl (List.map pkD l)) = AV.d (D.sl (List.map pkD l))) ∧ ((AV.d (D.int IntKind.i64 (↑l.length : Int)) = AV.d (D.int IntKind.i64 (↑l.length : Int))) ∧ ((AV.d (D.int IntKind.i64 (IntKind.i64.wrap ((↑j : Int) + (1 : Int)))) = AV.d (D.int IntKind.i64 (↑(j + (1 : Nat)) : Int))) ∧ ((Ob.box [AV.d (D.int IntKind.i64 k)] = Ob.box [AV.d (D.int IntKind.i64 k)]) ∧ ((Ob.row (3 : Nat) (List.map pkD ys ++ [D.agg (List.take (3 : Nat) [D.int IntKind.i64 x.p, D.int IntKind.i64 x.t, D.str x.d])]) = Ob.row (3 : Nat) (List.map pkD (ys ++ [x]))) ∧ ((Ob.row (3 : Nat) (List.map pkD no) = Ob.row (3 : Nat) (List.map pkD no)) ∧ (True))))))))))))))) (False)) (h := {els := [(8, .el (pkD x)), (14, .call [0] (.d (.bool true)) [.box [.d (.int .i64 k)]])]}) (subs := []) (ws := []) (ρ := []) (by kernel_rfl) ?_
  have h1 := cut36 x k
  rw [hx] at h1
  have hj := get_lt hn
  rw [inc_i64 (by omega)]
  refine condP_t (by rw [decide_eq_true_eq]; omega) ?_
  try rw [List.map_append]
  repeat' (first | with_reducible exact True.intro | with_reducible refine And.intro ?_ ?_ | with_reducible refine condP_dec (fun _ => ?_) (fun _ => ?_) | with_reducible refine condP_eq (fun _ => ?_) (fun _ => ?_) | with_reducible refine condP_ne (fun _ => ?_) (fun _ => ?_) | with_reducible refine condP_not (condP_dec (fun _ => ?_) (fun _ => ?_)) | with_reducible refine condP_not (condP_eq (fun _ => ?_) (fun _ => ?_)) | with_reducible refine condP_not (condP_intro (fun _ => ?_) (fun _ => ?_)) | with_reducible refine condP_intro (fun _ => ?_) (fun _ => ?_))
  all_goals first | exact h1 | exact el_map hn rfl | rfl | omega | (simp; omega) | (simp [chunk, pkD, D.cells]; done) | skip

set_option maxRecDepth 100000 in
set_option maxHeartbeats 1000000 in
theorem r35pn (l : List Pk) (hl : l.length < 1073741824) (ys no : List Pk) (hy : ys.length < 1073741824) (hno : no.length < 1073741824) (j : Nat) (x : Pk) (hn : l[j]? = some x) (k : Int) (hx : onPath k x = false) : Runs Try.prog 1 (loopN Try.prog 35 0) (St.as (I35 l f36 (o36 k) ys no j) 28) (.normal) (St.as (I35 l f36 (o36 k) ys (no ++ [x]) (j+1)) 28) := by
  refine round_wp (p := condP (decide ((↑j : Int) < (↑l.length : Int))) (((0 : Int) ≤ (↑j : Int)) ∧ (((List.map pkD l)[(↑j : Int).toNat]? = some (D.agg [D.int IntKind.i64 x.p, D.int IntKind.i64 x.t, D.str x.d])) ∧ ((FnOK Try.prog (36 : Nat) [AV.d (D.agg [D.int IntKind.i64 x.p, D.int IntKind.i64 x.t, D.str x.d]), AV.ptr (0 : Nat) (0 : Nat)] [Ob.box [AV.d (D.int IntKind.i64 k)]] (AV.d (D.bool false)) [Ob.box [AV.d (D.int IntKind.i64 k)]]) ∧ ((((List.map pkD no).length + [D.agg (List.take (3 : Nat) [D.int IntKind.i64 x.p, D.int IntKind.i64 x.t, D.str x.d])].length) * (32 : Nat) ≤ (140737488355328 : Nat)) ∧ ((∀ (e : D), e ∈ chunk (3 : Nat) (1 : Nat) [D.int IntKind.i64 x.p, D.int IntKind.i64 x.t, D.str x.d] → e.cells.length = (3 : Nat)) ∧ ((AV.fn (36 : Nat) [AV.ptr (0 : Nat) (0 : Nat)] = AV.fn (36 : Nat) [AV.ptr (0 : Nat) (0 : Nat)]) ∧ ((AV.own (4 : Nat) (3 : Nat) = AV.own (4 : Nat) (3 : Nat)) ∧ ((AV.own (1192 : Nat) (3 : Nat) = AV.own (1192 : Nat) (3 : Nat)) ∧ ((AV.d (D.sl (List.map pkD l)) = AV.d (D.sl (List.map pkD l))) ∧ ((AV.d (D.int IntKind.i64 (↑l.length : Int)) = AV.d (D.int IntKind.i64 (↑l.length : Int))) ∧ ((AV.d (D.int IntKind.i64 (IntKind.i64.wrap ((↑j : Int) + (1 : Int)))) = AV.d (D.int IntKind.i64 (↑(j + (1 : Nat)) : Int))) ∧ ((Ob.box [AV.d (D.int IntKind.i64 k)] = Ob.box [AV.d (D.int IntKind.i64 k)]) ∧ ((Ob.row (3 : Nat) (List.map pkD ys) = Ob.row (3 : Nat) (List.map pkD ys)) ∧ ((Ob.row (3 : Nat) (List.map pkD no ++ [D.agg (List.take (3 : Nat) [D.int IntKind.i64 x.p, D.int IntKind.i64 x.t, D.str x.d])]) = Ob.row (3 : Nat) (List.map pkD (no ++ [x]))) ∧ (True))))))))))))))) (False)) (h := {els := [(8, .el (pkD x)), (14, .call [0] (.d (.bool false)) [.box [.d (.int .i64 k)]])]}) (subs := []) (ws := []) (ρ := []) (by kernel_rfl) ?_
  have h1 := cut36 x k
  rw [hx] at h1
  have hj := get_lt hn
  rw [inc_i64 (by omega)]
  refine condP_t (by rw [decide_eq_true_eq]; omega) ?_
  try rw [List.map_append]
  repeat' (first | with_reducible exact True.intro | with_reducible refine And.intro ?_ ?_ | with_reducible refine condP_dec (fun _ => ?_) (fun _ => ?_) | with_reducible refine condP_eq (fun _ => ?_) (fun _ => ?_) | with_reducible refine condP_ne (fun _ => ?_) (fun _ => ?_) | with_reducible refine condP_not (condP_dec (fun _ => ?_) (fun _ => ?_)) | with_reducible refine condP_not (condP_eq (fun _ => ?_) (fun _ => ?_)) | with_reducible refine condP_not (condP_intro (fun _ => ?_) (fun _ => ?_)) | with_reducible refine condP_intro (fun _ => ?_) (fun _ => ?_))
  all_goals first | exact h1 | exact el_map hn rfl | rfl | omega | (simp; omega) | (simp [chunk, pkD, D.cells]; done) | skip

set_option maxRecDepth 100000 in
set_option maxHeartbeats 1000000 in
theorem r35wy (l : List Pk) (hl : l.length < 1073741824) (ys no : List Pk) (hy : ys.length < 1073741824) (hno : no.length < 1073741824) (j : Nat) (x : Pk) (hn : l[j]? = some x) (k t : Int) (hx : onWay k t x = true) : Runs Try.prog 2 (loopN Try.prog 35 0) (St.as (I35 l f37 (o37 k t) ys no j) 28) (.normal) (St.as (I35 l f37 (o37 k t) (ys ++ [x]) no (j+1)) 28) := by
  refine round_wp (p := condP (decide ((↑j : Int) < (↑l.length : Int))) (((0 : Int) ≤ (↑j : Int)) ∧ (((List.map pkD l)[(↑j : Int).toNat]? = some (D.agg [D.int IntKind.i64 x.p, D.int IntKind.i64 x.t, D.str x.d])) ∧ ((FnOK Try.prog (37 : Nat) [AV.d (D.agg [D.int IntKind.i64 x.p, D.int IntKind.i64 x.t, D.str x.d]), AV.ptr (0 : Nat) (0 : Nat), AV.ptr (1 : Nat) (0 : Nat)] [Ob.box [AV.d (D.int IntKind.i64 k)], Ob.box [AV.d (D.int IntKind.i64 t)]] (AV.d (D.bool true)) [Ob.box [AV.d (D.int IntKind.i64 k)], Ob.box [AV.d (D.int IntKind.i64 t)]]) ∧ ((((List.map pkD ys).length + [D.agg (List.take (3 : Nat) [D.int IntKind.i64 x.p, D.int IntKind.i64 x.t, D.str x.d])].length) * (32 : Nat) ≤ (140737488355328 : Nat)) ∧ ((∀ (e : D), e ∈ chunk (3 : Nat) (1 : Nat) [D.int IntKind.i64 x.p, D.int IntKind.i64 x.t, D.str x.d] → e.cells.length = (3 : Nat)) ∧ ((AV.fn (37 : Nat) [AV.ptr (0 : Nat) (0 : Nat), AV.ptr (1 : Nat) (0 : Nat)] = AV.fn (37 : Nat) [AV.ptr (0 : Nat) (0 : Nat), AV.ptr (1 : Nat) (0 : Nat)]) ∧ ((AV.own (1160 : Nat) (3 : Nat) = AV.own (1160 : Nat) (3 : Nat)) ∧ ((AV.own (5 : Nat) (3 : Nat) = AV.own (5 : Nat) (3 : Nat)) ∧ ((AV.d (D.sl (List.map pkD l)) = AV.d (D.sl (List.map pkD l))) ∧ ((AV.d (D.int IntKind.i64 (↑l.length : Int)) = AV.d (D.int IntKind.i64 (↑l.length : Int))) ∧ ((AV.d (D.int IntKind.i64 (IntKind.i64.wrap ((↑j : Int) + (1 : Int)))) = AV.d (D.int IntKind.i64 (↑(j + (1 : Nat)) : Int))) ∧ ((Ob.box [AV.d (D.int IntKind.i64 k)] = Ob.box [AV.d (D.int IntKind.i64 k)]) ∧ ((Ob.box [AV.d (D.int IntKind.i64 t)] = Ob.box [AV.d (D.int IntKind.i64 t)]) ∧ ((Ob.row (3 : Nat) (List.map pkD ys ++ [D.agg (List.take (3 : Nat) [D.int IntKind.i64 x.p, D.int IntKind.i64 x.t, D.str x.d])]) = Ob.row (3 : Nat) (List.map pkD (ys ++ [x]))) ∧ ((Ob.row (3 : Nat) (List.map pkD no) = Ob.row (3 : Nat) (List.map pkD no)) ∧ (True)))))))))))))))) (False)) (h := {els := [(8, .el (pkD x)), (14, .call [0, 1] (.d (.bool true)) [.box [.d (.int .i64 k)], .box [.d (.int .i64 t)]])]}) (subs := []) (ws := []) (ρ := []) (by kernel_rfl) ?_
  have h1 := all37 x k t
  rw [hx] at h1
  have hj := get_lt hn
  rw [inc_i64 (by omega)]
  refine condP_t (by rw [decide_eq_true_eq]; omega) ?_
  try rw [List.map_append]
  repeat' (first | with_reducible exact True.intro | with_reducible refine And.intro ?_ ?_ | with_reducible refine condP_dec (fun _ => ?_) (fun _ => ?_) | with_reducible refine condP_eq (fun _ => ?_) (fun _ => ?_) | with_reducible refine condP_ne (fun _ => ?_) (fun _ => ?_) | with_reducible refine condP_not (condP_dec (fun _ => ?_) (fun _ => ?_)) | with_reducible refine condP_not (condP_eq (fun _ => ?_) (fun _ => ?_)) | with_reducible refine condP_not (condP_intro (fun _ => ?_) (fun _ => ?_)) | with_reducible refine condP_intro (fun _ => ?_) (fun _ => ?_))
  all_goals first | exact h1 | exact el_map hn rfl | rfl | omega | (simp; omega) | (simp [chunk, pkD, D.cells]; done) | skip

set_option maxRecDepth 100000 in
set_option maxHeartbeats 1000000 in
theorem r35wn (l : List Pk) (hl : l.length < 1073741824) (ys no : List Pk) (hy : ys.length < 1073741824) (hno : no.length < 1073741824) (j : Nat) (x : Pk) (hn : l[j]? = some x) (k t : Int) (hx : onWay k t x = false) : Runs Try.prog 2 (loopN Try.prog 35 0) (St.as (I35 l f37 (o37 k t) ys no j) 28) (.normal) (St.as (I35 l f37 (o37 k t) ys (no ++ [x]) (j+1)) 28) := by
  refine round_wp (p := condP (decide ((↑j : Int) < (↑l.length : Int))) (((0 : Int) ≤ (↑j : Int)) ∧ (((List.map pkD l)[(↑j : Int).toNat]? = some (D.agg [D.int IntKind.i64 x.p, D.int IntKind.i64 x.t, D.str x.d])) ∧ ((FnOK Try.prog (37 : Nat) [AV.d (D.agg [D.int IntKind.i64 x.p, D.int IntKind.i64 x.t, D.str x.d]), AV.ptr (0 : Nat) (0 : Nat), AV.ptr (1 : Nat) (0 : Nat)] [Ob.box [AV.d (D.int IntKind.i64 k)], Ob.box [AV.d (D.int IntKind.i64 t)]] (AV.d (D.bool false)) [Ob.box [AV.d (D.int IntKind.i64 k)], Ob.box [AV.d (D.int IntKind.i64 t)]]) ∧ ((((List.map pkD no).length + [D.agg (List.take (3 : Nat) [D.int IntKind.i64 x.p, D.int IntKind.i64 x.t, D.str x.d])].length) * (32 : Nat) ≤ (140737488355328 : Nat)) ∧ ((∀ (e : D), e ∈ chunk (3 : Nat) (1 : Nat) [D.int IntKind.i64 x.p, D.int IntKind.i64 x.t, D.str x.d] → e.cells.length = (3 : Nat)) ∧ ((AV.fn (37 : Nat) [AV.ptr (0 : Nat) (0 : Nat), AV.ptr (1 : Nat) (0 : Nat)] = AV.fn (37 : Nat) [AV.ptr (0 : Nat) (0 : Nat), AV.ptr (1 : Nat) (0 : Nat)]) ∧ ((AV.own (4 : Nat) (3 : Nat) = AV.own (4 : Nat) (3 : Nat)) ∧ ((AV.own (1192 : Nat) (3 : Nat) = AV.own (1192 : Nat) (3 : Nat)) ∧ ((AV.d (D.sl (List.map pkD l)) = AV.d (D.sl (List.map pkD l))) ∧ ((AV.d (D.int IntKind.i64 (↑l.length : Int)) = AV.d (D.int IntKind.i64 (↑l.length : Int))) ∧ ((AV.d (D.int IntKind.i64 (IntKind.i64.wrap ((↑j : Int) + (1 : Int)))) = AV.d (D.int IntKind.i64 (↑(j + (1 : Nat)) : Int))) ∧ ((Ob.box [AV.d (D.int IntKind.i64 k)] = Ob.box [AV.d (D.int IntKind.i64 k)]) ∧ ((Ob.box [AV.d (D.int IntKind.i64 t)] = Ob.box [AV.d (D.int IntKind.i64 t)]) ∧ ((Ob.row (3 : Nat) (List.map pkD ys) = Ob.row (3 : Nat) (List.map pkD ys)) ∧ ((Ob.row (3 : Nat) (List.map pkD no ++ [D.agg (List.take (3 : Nat) [D.int IntKind.i64 x.p, D.int IntKind.i64 x.t, D.str x.d])]) = Ob.row (3 : Nat) (List.map pkD (no ++ [x]))) ∧ (True)))))))))))))))) (False)) (h := {els := [(8, .el (pkD x)), (14, .call [0, 1] (.d (.bool false)) [.box [.d (.int .i64 k)], .box [.d (.int .i64 t)]])]}) (subs := []) (ws := []) (ρ := []) (by kernel_rfl) ?_
  have h1 := all37 x k t
  rw [hx] at h1
  have hj := get_lt hn
  rw [inc_i64 (by omega)]
  refine condP_t (by rw [decide_eq_true_eq]; omega) ?_
  try rw [List.map_append]
  repeat' (first | with_reducible exact True.intro | with_reducible refine And.intro ?_ ?_ | with_reducible refine condP_dec (fun _ => ?_) (fun _ => ?_) | with_reducible refine condP_eq (fun _ => ?_) (fun _ => ?_) | with_reducible refine condP_ne (fun _ => ?_) (fun _ => ?_) | with_reducible refine condP_not (condP_dec (fun _ => ?_) (fun _ => ?_)) | with_reducible refine condP_not (condP_eq (fun _ => ?_) (fun _ => ?_)) | with_reducible refine condP_not (condP_intro (fun _ => ?_) (fun _ => ?_)) | with_reducible refine condP_intro (fun _ => ?_) (fun _ => ?_))
  all_goals first | exact h1 | exact el_map hn rfl | rfl | omega | (simp; omega) | (simp [chunk, pkD, D.cells]; done) | skip

set_option maxRecDepth 100000 in
set_option maxHeartbeats 1000000 in
theorem q35p (l ys no : List Pk) (k : Int) : Runs Try.prog 1 (loopN Try.prog 35 0) (St.as (I35 l f36 (o36 k) ys no l.length) 28) (.exit 0) (St.as (I35 l f36 (o36 k) ys no l.length) 28) := by
  refine round_wp (p := condP (decide ((↑l.length : Int) < (↑l.length : Int))) (False) ((AV.fn (36 : Nat) [AV.ptr (0 : Nat) (0 : Nat)] = AV.fn (36 : Nat) [AV.ptr (0 : Nat) (0 : Nat)]) ∧ ((AV.own (4 : Nat) (3 : Nat) = AV.own (4 : Nat) (3 : Nat)) ∧ ((AV.own (5 : Nat) (3 : Nat) = AV.own (5 : Nat) (3 : Nat)) ∧ ((AV.d (D.sl (List.map pkD l)) = AV.d (D.sl (List.map pkD l))) ∧ ((AV.d (D.int IntKind.i64 (↑l.length : Int)) = AV.d (D.int IntKind.i64 (↑l.length : Int))) ∧ ((AV.d (D.int IntKind.i64 (↑l.length : Int)) = AV.d (D.int IntKind.i64 (↑l.length : Int))) ∧ ((Ob.box [AV.d (D.int IntKind.i64 k)] = Ob.box [AV.d (D.int IntKind.i64 k)]) ∧ ((Ob.row (3 : Nat) (List.map pkD ys) = Ob.row (3 : Nat) (List.map pkD ys)) ∧ ((Ob.row (3 : Nat) (List.map pkD no) = Ob.row (3 : Nat) (List.map pkD no)) ∧ (True))))))))))) (h := {}) (subs := []) (ws := []) (ρ := []) (by kernel_rfl) ?_
  repeat' (first | with_reducible exact True.intro | with_reducible refine And.intro ?_ ?_ | with_reducible refine condP_dec (fun _ => ?_) (fun _ => ?_) | with_reducible refine condP_eq (fun _ => ?_) (fun _ => ?_) | with_reducible refine condP_ne (fun _ => ?_) (fun _ => ?_) | with_reducible refine condP_not (condP_dec (fun _ => ?_) (fun _ => ?_)) | with_reducible refine condP_not (condP_eq (fun _ => ?_) (fun _ => ?_)) | with_reducible refine condP_not (condP_intro (fun _ => ?_) (fun _ => ?_)) | with_reducible refine condP_intro (fun _ => ?_) (fun _ => ?_))
  all_goals (try simp only [List.length_map, AV.d.injEq, D.int.injEq, D.bool.injEq, D.str.injEq, D.sl.injEq, true_and, and_true, decide_eq_true_eq, decide_eq_false_iff_not, decide_eq_decide])
  all_goals (try simp only [List.length_map] at *)
  all_goals first | rfl | omega

set_option maxRecDepth 100000 in
set_option maxHeartbeats 1000000 in
theorem q35w (l ys no : List Pk) (k t : Int) : Runs Try.prog 2 (loopN Try.prog 35 0) (St.as (I35 l f37 (o37 k t) ys no l.length) 28) (.exit 0) (St.as (I35 l f37 (o37 k t) ys no l.length) 28) := by
  refine round_wp (p := condP (decide ((↑l.length : Int) < (↑l.length : Int))) (False) ((AV.fn (37 : Nat) [AV.ptr (0 : Nat) (0 : Nat), AV.ptr (1 : Nat) (0 : Nat)] = AV.fn (37 : Nat) [AV.ptr (0 : Nat) (0 : Nat), AV.ptr (1 : Nat) (0 : Nat)]) ∧ ((AV.own (4 : Nat) (3 : Nat) = AV.own (4 : Nat) (3 : Nat)) ∧ ((AV.own (5 : Nat) (3 : Nat) = AV.own (5 : Nat) (3 : Nat)) ∧ ((AV.d (D.sl (List.map pkD l)) = AV.d (D.sl (List.map pkD l))) ∧ ((AV.d (D.int IntKind.i64 (↑l.length : Int)) = AV.d (D.int IntKind.i64 (↑l.length : Int))) ∧ ((AV.d (D.int IntKind.i64 (↑l.length : Int)) = AV.d (D.int IntKind.i64 (↑l.length : Int))) ∧ ((Ob.box [AV.d (D.int IntKind.i64 k)] = Ob.box [AV.d (D.int IntKind.i64 k)]) ∧ ((Ob.box [AV.d (D.int IntKind.i64 t)] = Ob.box [AV.d (D.int IntKind.i64 t)]) ∧ ((Ob.row (3 : Nat) (List.map pkD ys) = Ob.row (3 : Nat) (List.map pkD ys)) ∧ ((Ob.row (3 : Nat) (List.map pkD no) = Ob.row (3 : Nat) (List.map pkD no)) ∧ (True)))))))))))) (h := {}) (subs := []) (ws := []) (ρ := []) (by kernel_rfl) ?_
  repeat' (first | with_reducible exact True.intro | with_reducible refine And.intro ?_ ?_ | with_reducible refine condP_dec (fun _ => ?_) (fun _ => ?_) | with_reducible refine condP_eq (fun _ => ?_) (fun _ => ?_) | with_reducible refine condP_ne (fun _ => ?_) (fun _ => ?_) | with_reducible refine condP_not (condP_dec (fun _ => ?_) (fun _ => ?_)) | with_reducible refine condP_not (condP_eq (fun _ => ?_) (fun _ => ?_)) | with_reducible refine condP_not (condP_intro (fun _ => ?_) (fun _ => ?_)) | with_reducible refine condP_intro (fun _ => ?_) (fun _ => ?_))
  all_goals (try simp only [List.length_map, AV.d.injEq, D.int.injEq, D.bool.injEq, D.str.injEq, D.sl.injEq, true_and, and_true, decide_eq_true_eq, decide_eq_false_iff_not, decide_eq_decide])
  all_goals (try simp only [List.length_map] at *)
  all_goals first | rfl | omega

theorem fil_len (l : List Pk) (f : Pk → Bool) (j : Nat) : ((l.take j).filter f).length ≤ l.length := Nat.le_trans (List.length_filter_le _ _) (by simp; omega)
theorem l35p (l : List Pk) (hl : l.length < 1073741824) (k : Int) : Loops Try.prog 1 (loopN Try.prog 35 0) ((I35 l f36 (o36 k) [] [] 0).as 28) (.exit 0) ((I35 l f36 (o36 k) (l.filter (onPath k)) (l.filter (notB (onPath k))) l.length).as 28) := by
  have e := loops_n (P := Try.prog) (k := 1) (c := loopN Try.prog 35 0) (I := fun j => (I35 l f36 (o36 k) ((l.take j).filter (onPath k)) ((l.take j).filter (notB (onPath k))) j).as 28) (e := .exit 0) (by simp) l.length 0 (by omega) (fun j _ hj => by
    have g := get_of hj
    have b1 := fil_len l (onPath k) j
    have b2 := fil_len l (notB (onPath k)) j
    rw [filter_snoc g, filter_snoc g]
    cases hx : onPath k l[j]
    · have : notB (onPath k) l[j] = true := by unfold notB; rw [hx]; rfl
      rw [this, if_pos rfl, if_neg (by simp), List.append_nil]
      exact r35pn l hl _ _ (by omega) (by omega) j _ g k hx
    · have : notB (onPath k) l[j] = false := by unfold notB; rw [hx]; rfl
      rw [this, if_pos rfl, if_neg (by simp), List.append_nil]
      exact r35py l hl _ _ (by omega) (by omega) j _ g k hx) (q35p l _ _ k)
  rw [List.take_length] at e
  exact e
theorem l35w (l : List Pk) (hl : l.length < 1073741824) (k t : Int) : Loops Try.prog 2 (loopN Try.prog 35 0) ((I35 l f37 (o37 k t) [] [] 0).as 28) (.exit 0) ((I35 l f37 (o37 k t) (l.filter (onWay k t)) (l.filter (notB (onWay k t))) l.length).as 28) := by
  have e := loops_n (P := Try.prog) (k := 2) (c := loopN Try.prog 35 0) (I := fun j => (I35 l f37 (o37 k t) ((l.take j).filter (onWay k t)) ((l.take j).filter (notB (onWay k t))) j).as 28) (e := .exit 0) (by simp) l.length 0 (by omega) (fun j _ hj => by
    have g := get_of hj
    have b1 := fil_len l (onWay k t) j
    have b2 := fil_len l (notB (onWay k t)) j
    rw [filter_snoc g, filter_snoc g]
    cases hx : onWay k t l[j]
    · have : notB (onWay k t) l[j] = true := by unfold notB; rw [hx]; rfl
      rw [this, if_pos rfl, if_neg (by simp), List.append_nil]
      exact r35wn l hl _ _ (by omega) (by omega) j _ g k t hx
    · have : notB (onWay k t) l[j] = false := by unfold notB; rw [hx]; rfl
      rw [this, if_pos rfl, if_neg (by simp), List.append_nil]
      exact r35wy l hl _ _ (by omega) (by omega) j _ g k t hx) (q35w l _ _ k t)
  rw [List.take_length] at e
  exact e
set_option maxRecDepth 100000 in
set_option maxHeartbeats 1000000 in
theorem part35p (l : List Pk) (k : Int) (ys no : List Pk) (hL : Loops Try.prog 1 (loopN Try.prog 35 0) ((I35 l f36 (o36 k) [] [] 0).as 28) (.exit 0) ((I35 l f36 (o36 k) ys no l.length).as 28)) : FnOK Try.prog 35 ([.d (.sl (l.map pkD)), .fn 36 [.ptr 0 0]]) ([.box [.d (.int .i64 k)]]) (.tup [.d (.sl (ys.map pkD)), .d (.sl (no.map pkD))]) ([.box [.d (.int .i64 k)]]) := by
  refine fnOK_wp (p := (AV.fn (36 : Nat) [AV.ptr (0 : Nat) (0 : Nat)] = AV.fn (36 : Nat) [AV.ptr (0 : Nat) (0 : Nat)]) ∧ ((AV.own (904 : Nat) (3 : Nat) = AV.own (904 : Nat) (3 : Nat)) ∧ ((AV.own (905 : Nat) (3 : Nat) = AV.own (905 : Nat) (3 : Nat)) ∧ ((AV.d (D.sl (List.map pkD l)) = AV.d (D.sl (List.map pkD l))) ∧ ((AV.d (D.int IntKind.i64 (↑(List.map pkD l).length : Int)) = AV.d (D.int IntKind.i64 (↑l.length : Int))) ∧ ((AV.d (D.int IntKind.i64 (0 : Int)) = AV.d (D.int IntKind.i64 (0 : Int))) ∧ ((Ob.box [AV.d (D.int IntKind.i64 k)] = Ob.box [AV.d (D.int IntKind.i64 k)]) ∧ ((Ob.row (3 : Nat) [] = Ob.row (3 : Nat) []) ∧ ((Ob.row (3 : Nat) [] = Ob.row (3 : Nat) []) ∧ ((LoopsS Try.prog (1 : Nat) (loopN Try.prog (35 : Nat) (0 : Nat)) (I35 l f36 (o36 k) [] [] (0 : Nat)) (Exit.exit (0 : Nat)) (I35 l f36 (o36 k) ys no l.length) (28 : Nat)) ∧ ((AV.tup [AV.d (D.sl (List.map pkD ys)), AV.d (D.sl (List.map pkD no))] = AV.tup [AV.d (D.sl (List.map pkD ys)), AV.d (D.sl (List.map pkD no))]) ∧ ((Ob.box [AV.d (D.int IntKind.i64 k)] = Ob.box [AV.d (D.int IntKind.i64 k)]) ∧ (True))))))))))))) (h := {}) (subs := [⟨[], [], I35 l f36 (o36 k) [] [] 0, .exit 0, I35 l f36 (o36 k) ys no l.length⟩]) (ws := []) (ρ := []) (by kernel_rfl) ?_
  simp only [List.length_map]
  repeat' (first | with_reducible exact True.intro | with_reducible refine And.intro ?_ ?_ | with_reducible refine condP_dec (fun _ => ?_) (fun _ => ?_) | with_reducible refine condP_eq (fun _ => ?_) (fun _ => ?_) | with_reducible refine condP_ne (fun _ => ?_) (fun _ => ?_) | with_reducible refine condP_not (condP_dec (fun _ => ?_) (fun _ => ?_)) | with_reducible refine condP_not (condP_eq (fun _ => ?_) (fun _ => ?_)) | with_reducible refine condP_not (condP_intro (fun _ => ?_) (fun _ => ?_)) | with_reducible refine condP_intro (fun _ => ?_) (fun _ => ?_))
  all_goals first | exact hL | rfl | skip

set_option maxRecDepth 100000 in
set_option maxHeartbeats 1000000 in
theorem part35w (l : List Pk) (k t : Int) (ys no : List Pk) (hL : Loops Try.prog 2 (loopN Try.prog 35 0) ((I35 l f37 (o37 k t) [] [] 0).as 28) (.exit 0) ((I35 l f37 (o37 k t) ys no l.length).as 28)) : FnOK Try.prog 35 ([.d (.sl (l.map pkD)), .fn 37 [.ptr 0 0, .ptr 1 0]]) ([.box [.d (.int .i64 k)], .box [.d (.int .i64 t)]]) (.tup [.d (.sl (ys.map pkD)), .d (.sl (no.map pkD))]) ([.box [.d (.int .i64 k)], .box [.d (.int .i64 t)]]) := by
  refine fnOK_wp (p := (AV.fn (37 : Nat) [AV.ptr (0 : Nat) (0 : Nat), AV.ptr (1 : Nat) (0 : Nat)] = AV.fn (37 : Nat) [AV.ptr (0 : Nat) (0 : Nat), AV.ptr (1 : Nat) (0 : Nat)]) ∧ ((AV.own (904 : Nat) (3 : Nat) = AV.own (904 : Nat) (3 : Nat)) ∧ ((AV.own (905 : Nat) (3 : Nat) = AV.own (905 : Nat) (3 : Nat)) ∧ ((AV.d (D.sl (List.map pkD l)) = AV.d (D.sl (List.map pkD l))) ∧ ((AV.d (D.int IntKind.i64 (↑(List.map pkD l).length : Int)) = AV.d (D.int IntKind.i64 (↑l.length : Int))) ∧ ((AV.d (D.int IntKind.i64 (0 : Int)) = AV.d (D.int IntKind.i64 (0 : Int))) ∧ ((Ob.box [AV.d (D.int IntKind.i64 k)] = Ob.box [AV.d (D.int IntKind.i64 k)]) ∧ ((Ob.box [AV.d (D.int IntKind.i64 t)] = Ob.box [AV.d (D.int IntKind.i64 t)]) ∧ ((Ob.row (3 : Nat) [] = Ob.row (3 : Nat) []) ∧ ((Ob.row (3 : Nat) [] = Ob.row (3 : Nat) []) ∧ ((LoopsS Try.prog (2 : Nat) (loopN Try.prog (35 : Nat) (0 : Nat)) (I35 l f37 (o37 k t) [] [] (0 : Nat)) (Exit.exit (0 : Nat)) (I35 l f37 (o37 k t) ys no l.length) (28 : Nat)) ∧ ((AV.tup [AV.d (D.sl (List.map pkD ys)), AV.d (D.sl (List.map pkD no))] = AV.tup [AV.d (D.sl (List.map pkD ys)), AV.d (D.sl (List.map pkD no))]) ∧ ((Ob.box [AV.d (D.int IntKind.i64 k)] = Ob.box [AV.d (D.int IntKind.i64 k)]) ∧ ((Ob.box [AV.d (D.int IntKind.i64 t)] = Ob.box [AV.d (D.int IntKind.i64 t)]) ∧ (True))))))))))))))) (h := {}) (subs := [⟨[], [], I35 l f37 (o37 k t) [] [] 0, .exit 0, I35 l f37 (o37 k t) ys no l.length⟩]) (ws := []) (ρ := []) (by kernel_rfl) ?_
  simp only [List.length_map]
  repeat' (first | with_reducible exact True.intro | with_reducible refine And.intro ?_ ?_ | with_reducible refine condP_dec (fun _ => ?_) (fun _ => ?_) | with_reducible refine condP_eq (fun _ => ?_) (fun _ => ?_) | with_reducible refine condP_ne (fun _ => ?_) (fun _ => ?_) | with_reducible refine condP_not (condP_dec (fun _ => ?_) (fun _ => ?_)) | with_reducible refine condP_not (condP_eq (fun _ => ?_) (fun _ => ?_)) | with_reducible refine condP_not (condP_intro (fun _ => ?_) (fun _ => ?_)) | with_reducible refine condP_intro (fun _ => ?_) (fun _ => ?_))
  all_goals first | exact hL | rfl | skip

set_option maxRecDepth 100000 in
set_option maxHeartbeats 1000000 in
theorem cut17y (x : Ls) (k : Int) (hc : lChk x = 0) (ys no : List Pk) (hy : x.l.filter (onPath k) = ys) (hno : x.l.filter (notB (onPath k)) = no) : FnOK Try.prog 17 ([.d (lsD x), .d (.int .i64 k)]) ([]) (.tup [.d (lsD ⟨no, x.s, x.c⟩), .d (.int .i64 ys.length)]) ([]) := by
  refine fnOK_wp (p := (FnOK Try.prog (25 : Nat) [AV.d (D.agg [D.sl (List.map pkD x.l), D.int IntKind.i64 x.s, D.int IntKind.i64 x.c])] [] (AV.d (D.int IntKind.i64 (0 : Int))) []) ∧ ((FnOK Try.prog (35 : Nat) [AV.d (D.sl (List.map pkD x.l)), AV.fn (36 : Nat) [AV.ptr (0 : Nat) (0 : Nat)]] [Ob.box [AV.d (D.int IntKind.i64 k)]] (AV.tup [AV.d (D.sl (List.map pkD ys)), AV.d (D.sl (List.map pkD no))]) [Ob.box [AV.d (D.int IntKind.i64 k)]]) ∧ ((FnOK Try.prog (29 : Nat) [AV.d (D.agg [D.sl (List.map pkD x.l), D.int IntKind.i64 x.s, D.int IntKind.i64 x.c]), AV.d (D.int IntKind.i64 (0 : Int)), AV.d (D.sl (List.map pkD no))] [] (AV.agg [AV.own (0 : Nat) (3 : Nat), AV.d (D.int IntKind.i64 x.s), AV.d (D.int IntKind.i64 x.c)]) [Ob.row (3 : Nat) (List.map pkD no)]) ∧ ((AV.tup [AV.d (D.agg [D.sl (List.map pkD no), D.int IntKind.i64 x.s, D.int IntKind.i64 x.c]), AV.d (D.int IntKind.i64 (↑(List.map pkD ys).length : Int))] = AV.tup [AV.d (D.agg [D.sl (List.map pkD (Ls.mk no x.s x.c).l), D.int IntKind.i64 (Ls.mk no x.s x.c).s, D.int IntKind.i64 (Ls.mk no x.s x.c).c]), AV.d (D.int IntKind.i64 (↑ys.length : Int))]) ∧ (True))))) (h := {G := [(25, fun _ => some (.d (.int .i64 0), []))], H := [(3, [(3, .call [1024] (.tup [.d (.sl (ys.map pkD)), .d (.sl (no.map pkD))]) [.box [.d (.int .i64 k)]])]), (4, [(2, .call [] (.agg [.own 0 3, .d (.int .i64 x.s), .d (.int .i64 x.c)]) [.row 3 (no.map pkD)])])]}) (subs := []) (ws := []) (ρ := []) (by kernel_rfl) ?_
  obtain ⟨c1, -, c3, c4, c5, c6⟩ := chk_zero.1 hc
  have b2 : no.length ≤ x.l.length := hno ▸ List.length_filter_le _ _
  have k1 := chk25 x (by omega)
  rw [hc] at k1
  have k2 := l35p x.l (by omega) k
  rw [hy, hno] at k2
  have k3 := part35p x.l k ys no k2
  have k4 := with29 x 0 no (by omega) (by rw [IntKind.wrap_i64]; omega)
  rw [min_c c6] at k4
  simp only [List.length_map]
  repeat' (first | with_reducible exact True.intro | with_reducible refine And.intro ?_ ?_ | with_reducible refine condP_dec (fun _ => ?_) (fun _ => ?_) | with_reducible refine condP_eq (fun _ => ?_) (fun _ => ?_) | with_reducible refine condP_ne (fun _ => ?_) (fun _ => ?_) | with_reducible refine condP_not (condP_dec (fun _ => ?_) (fun _ => ?_)) | with_reducible refine condP_not (condP_eq (fun _ => ?_) (fun _ => ?_)) | with_reducible refine condP_not (condP_intro (fun _ => ?_) (fun _ => ?_)) | with_reducible refine condP_intro (fun _ => ?_) (fun _ => ?_))
  all_goals first | exact k1 | exact k3 | exact k4 | rfl | skip

set_option maxRecDepth 100000 in
set_option maxHeartbeats 1000000 in
theorem cut17n (x : Ls) (hl : x.l.length < 1073741824) (k : Int) (hc : lChk x ≠ 0) : FnOK Try.prog 17 ([.d (lsD x), .d (.int .i64 k)]) ([]) (.tup [.d (lsD x), .d (.int .i64 0)]) ([]) := by
  refine fnOK_wp (p := (FnOK Try.prog (25 : Nat) [AV.d (D.agg [D.sl (List.map pkD x.l), D.int IntKind.i64 x.s, D.int IntKind.i64 x.c])] [] (AV.d (D.int IntKind.i64 (lChk x))) []) ∧ ((D.bool (lChk x != (0 : Int)) = D.bool true) ∧ ((AV.tup [AV.d (D.agg [D.sl (List.map pkD x.l), D.int IntKind.i64 x.s, D.int IntKind.i64 x.c]), AV.d (D.int IntKind.i64 (0 : Int))] = AV.tup [AV.d (D.agg [D.sl (List.map pkD x.l), D.int IntKind.i64 x.s, D.int IntKind.i64 x.c]), AV.d (D.int IntKind.i64 (0 : Int))]) ∧ (True)))) (h := {G := [(25, gChk25 x)], H := [(1, [(2, .val (.bool true))])]}) (subs := []) (ws := []) (ρ := []) (by kernel_rfl) ?_
  have k1 := chk25 x hl
  repeat' (first | with_reducible exact True.intro | with_reducible refine And.intro ?_ ?_ | with_reducible refine condP_dec (fun _ => ?_) (fun _ => ?_) | with_reducible refine condP_eq (fun _ => ?_) (fun _ => ?_) | with_reducible refine condP_ne (fun _ => ?_) (fun _ => ?_) | with_reducible refine condP_not (condP_dec (fun _ => ?_) (fun _ => ?_)) | with_reducible refine condP_not (condP_eq (fun _ => ?_) (fun _ => ?_)) | with_reducible refine condP_not (condP_intro (fun _ => ?_) (fun _ => ?_)) | with_reducible refine condP_intro (fun _ => ?_) (fun _ => ?_))
  all_goals first | exact k1 | rfl | (refine congrArg D.bool ?_; simp; exact hc) | skip

theorem cut17 (x : Ls) (hl : x.l.length < 1073741824) (k : Int) : FnOK Try.prog 17 [.d (lsD x), .d (.int .i64 k)] [] (.tup [.d (lsD (lCut x k)), .d (.int .i64 (lCutN x k))]) [] := by
  unfold lCut lCutN
  by_cases h : lChk x = 0
  · rw [if_pos h, if_pos h]; exact cut17y x k h _ _ rfl rfl
  · rw [if_neg h, if_neg h]; exact cut17n x hl k h
set_option maxRecDepth 100000 in
set_option maxHeartbeats 1000000 in
theorem all19y (x : Ls) (k t : Int) (hc : lChk x = 0) (ys no : List Pk) (hy : x.l.filter (onWay k t) = ys) (hno : x.l.filter (notB (onWay k t)) = no) : FnOK Try.prog 19 ([.d (lsD x), .d (.int .i64 k), .d (.int .i64 t)]) ([]) (.tup [.d (lsD ⟨no, x.s, min (x.c + ys.length) 1099511627776⟩), .d (.sl (ys.map pkD))]) ([]) := by
  refine fnOK_wp (p := (FnOK Try.prog (25 : Nat) [AV.d (D.agg [D.sl (List.map pkD x.l), D.int IntKind.i64 x.s, D.int IntKind.i64 x.c])] [] (AV.d (D.int IntKind.i64 (0 : Int))) []) ∧ ((FnOK Try.prog (35 : Nat) [AV.d (D.sl (List.map pkD x.l)), AV.fn (37 : Nat) [AV.ptr (0 : Nat) (0 : Nat), AV.ptr (1 : Nat) (0 : Nat)]] [Ob.box [AV.d (D.int IntKind.i64 k)], Ob.box [AV.d (D.int IntKind.i64 t)]] (AV.tup [AV.d (D.sl (List.map pkD ys)), AV.d (D.sl (List.map pkD no))]) [Ob.box [AV.d (D.int IntKind.i64 k)], Ob.box [AV.d (D.int IntKind.i64 t)]]) ∧ ((FnOK Try.prog (29 : Nat) [AV.d (D.agg [D.sl (List.map pkD x.l), D.int IntKind.i64 x.s, D.int IntKind.i64 x.c]), AV.d (D.int IntKind.i64 (↑(List.map pkD ys).length : Int)), AV.d (D.sl (List.map pkD no))] [] (AV.agg [AV.own (0 : Nat) (3 : Nat), AV.d (D.int IntKind.i64 x.s), AV.d (D.int IntKind.i64 (min (x.c + (↑ys.length : Int)) (1099511627776 : Int)))]) [Ob.row (3 : Nat) (List.map pkD no)]) ∧ ((AV.tup [AV.d (D.agg [D.sl (List.map pkD no), D.int IntKind.i64 x.s, D.int IntKind.i64 (min (x.c + (↑ys.length : Int)) (1099511627776 : Int))]), AV.d (D.sl (List.map pkD ys))] = AV.tup [AV.d (D.agg [D.sl (List.map pkD (Ls.mk no x.s (min (x.c + (↑ys.length : Int)) (1099511627776 : Int))).l), D.int IntKind.i64 (Ls.mk no x.s (min (x.c + (↑ys.length : Int)) (1099511627776 : Int))).s, D.int IntKind.i64 (Ls.mk no x.s (min (x.c + (↑ys.length : Int)) (1099511627776 : Int))).c]), AV.d (D.sl (List.map pkD ys))]) ∧ (True))))) (h := {G := [(25, fun _ => some (.d (.int .i64 0), []))], H := [(3, [(3, .call [1032, 1040] (.tup [.d (.sl (ys.map pkD)), .d (.sl (no.map pkD))]) [.box [.d (.int .i64 k)], .box [.d (.int .i64 t)]])]), (4, [(4, .call [] (.agg [.own 0 3, .d (.int .i64 x.s), .d (.int .i64 (min (x.c + ys.length) 1099511627776))]) [.row 3 (no.map pkD)])])]}) (subs := []) (ws := []) (ρ := []) (by kernel_rfl) ?_
  obtain ⟨c1, -, c3, c4, c5, c6⟩ := chk_zero.1 hc
  have b1 : ys.length ≤ x.l.length := hy ▸ List.length_filter_le _ _
  have b2 : no.length ≤ x.l.length := hno ▸ List.length_filter_le _ _
  have k1 := chk25 x (by omega)
  rw [hc] at k1
  have k2 := l35w x.l (by omega) k t
  rw [hy, hno] at k2
  have k3 := part35w x.l k t ys no k2
  have k4 := with29 x ys.length no (by omega) (by rw [IntKind.wrap_i64]; omega)
  simp only [List.length_map]
  repeat' (first | with_reducible exact True.intro | with_reducible refine And.intro ?_ ?_ | with_reducible refine condP_dec (fun _ => ?_) (fun _ => ?_) | with_reducible refine condP_eq (fun _ => ?_) (fun _ => ?_) | with_reducible refine condP_ne (fun _ => ?_) (fun _ => ?_) | with_reducible refine condP_not (condP_dec (fun _ => ?_) (fun _ => ?_)) | with_reducible refine condP_not (condP_eq (fun _ => ?_) (fun _ => ?_)) | with_reducible refine condP_not (condP_intro (fun _ => ?_) (fun _ => ?_)) | with_reducible refine condP_intro (fun _ => ?_) (fun _ => ?_))
  all_goals first | exact k1 | exact k3 | exact k4 | rfl | skip

set_option maxRecDepth 100000 in
set_option maxHeartbeats 1000000 in
theorem all19n (x : Ls) (hl : x.l.length < 1073741824) (k t : Int) (hc : lChk x ≠ 0) : FnOK Try.prog 19 ([.d (lsD x), .d (.int .i64 k), .d (.int .i64 t)]) ([]) (.tup [.d (lsD x), .d (.sl [])]) ([]) := by
  refine fnOK_wp (p := (FnOK Try.prog (25 : Nat) [AV.d (D.agg [D.sl (List.map pkD x.l), D.int IntKind.i64 x.s, D.int IntKind.i64 x.c])] [] (AV.d (D.int IntKind.i64 (lChk x))) []) ∧ ((D.bool (lChk x != (0 : Int)) = D.bool true) ∧ ((AV.tup [AV.d (D.agg [D.sl (List.map pkD x.l), D.int IntKind.i64 x.s, D.int IntKind.i64 x.c]), AV.d (D.sl [])] = AV.tup [AV.d (D.agg [D.sl (List.map pkD x.l), D.int IntKind.i64 x.s, D.int IntKind.i64 x.c]), AV.d (D.sl [])]) ∧ (True)))) (h := {G := [(25, gChk25 x)], H := [(1, [(2, .val (.bool true))])]}) (subs := []) (ws := []) (ρ := []) (by kernel_rfl) ?_
  have k1 := chk25 x hl
  repeat' (first | with_reducible exact True.intro | with_reducible refine And.intro ?_ ?_ | with_reducible refine condP_dec (fun _ => ?_) (fun _ => ?_) | with_reducible refine condP_eq (fun _ => ?_) (fun _ => ?_) | with_reducible refine condP_ne (fun _ => ?_) (fun _ => ?_) | with_reducible refine condP_not (condP_dec (fun _ => ?_) (fun _ => ?_)) | with_reducible refine condP_not (condP_eq (fun _ => ?_) (fun _ => ?_)) | with_reducible refine condP_not (condP_intro (fun _ => ?_) (fun _ => ?_)) | with_reducible refine condP_intro (fun _ => ?_) (fun _ => ?_))
  all_goals first | exact k1 | rfl | (refine congrArg D.bool ?_; simp; exact hc) | skip

theorem all19 (x : Ls) (hl : x.l.length < 1073741824) (k t : Int) : FnOK Try.prog 19 [.d (lsD x), .d (.int .i64 k), .d (.int .i64 t)] [] (.tup [.d (lsD (lAll x k t)), .d (.sl ((lAllP x k t).map pkD))]) [] := by
  unfold lAll lAllP
  by_cases h : lChk x = 0
  · rw [if_pos h, if_pos h]; exact all19y x k t h _ _ rfl rfl
  · rw [if_neg h, if_neg h]; exact all19n x hl k t h
end Go.Proofs.Ytoagghehabceaaa
