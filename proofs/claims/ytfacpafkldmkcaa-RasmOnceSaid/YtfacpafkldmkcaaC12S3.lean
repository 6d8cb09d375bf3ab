/-
laws 12: whether a state may be, joined; whether two are one; over and back; what is read.
-/
import Derived.Test.YtfacpafkldmkcaaC12S2
set_option linter.unusedSimpArgs false
set_option linter.unusedVariables false
namespace Go.Proofs.Ytfacpafkldmkcaa.C12
open Sx Go.RowKit

theorem pBad_end {lim e : Int} {x : Pt} (e0 : 0 ≤ e) (h : pBad lim e x = false) : 0 ≤ pEnd x ∧ pEnd x ≤ lim ∧ e < x.a ∧ x.d ≠ [] := by
  unfold pBad at h
  simp only [Bool.or_eq_false_iff, decide_eq_false_iff_not] at h
  obtain ⟨g1, g2, g3, g4⟩ := h
  unfold pEnd
  exact ⟨by omega, by omega, by omega, g2⟩
theorem drop_cons {l : List Pt} {j : Nat} {x : Pt} {r : List Pt} (h : l.drop j = x :: r) : l[j]? = some x ∧ l.drop (j + 1) = r := by
  constructor
  · have : (l.drop j)[0]? = some x := by rw [h]; rfl
    rw [List.getElem?_drop] at this
    exact this
  · rw [← List.drop_drop, h]; rfl
theorem l17 (s : Rq) (hb : Rb s) (hl : rLim s ≤ 1099511627776) (K : True) : ∀ (m : List Pt) (j : Nat) (e : Int), 0 ≤ e → s.p.drop j = m → j ≤ s.p.length →
    (rBad (rLim s) e m = false → ∃ e', Loops Try.prog 0 (loopN Try.prog 32 0) ((I17 s e j).as 63) (.exit 0) ((I17 s e' s.p.length).as 63)) ∧
    (rBad (rLim s) e m = true → Loops Try.prog 0 (loopN Try.prog 32 0) ((I17 s e j).as 63) .ret ((O17 10).as 63))
  | [], j, e, e0, hd, hj => by
    have hjl : j = s.p.length := by
      have : (s.p.drop j).length = 0 := by rw [hd]; rfl
      rw [List.length_drop] at this
      omega
    subst hjl
    exact ⟨fun _ => ⟨e, .out (q17 s e) (by simp)⟩, fun h => by cases h⟩
  | x :: r, j, e, e0, hd, hj => by
    obtain ⟨hn, hd2⟩ := drop_cons hd
    have hjl := get_lt hn
    unfold rBad
    cases hx : pBad (rLim s) e x
    · have hx2 := pBad_end e0 hx
      obtain ⟨i1, i2⟩ := l17 s hb hl K r (j + 1) (pEnd x) hx2.1 hd2 (by omega)
      refine ⟨fun h => ?_, fun h => ?_⟩
      · obtain ⟨e', h'⟩ := i1 (by simpa using h)
        exact ⟨e', .next (r17 s hb e e0 _ rfl hl j x hn hx K) h'⟩
      · exact .next (r17 s hb e e0 _ rfl hl j x hn hx K) (i2 (by simpa using h))
    · exact ⟨fun h => by simp at h, fun _ => .out (e17 s hb e e0 _ rfl hl j x hn hx K) (by simp)⟩
theorem l18 (s : Rq) (hb : Rb s) (hl : rLim s ≤ 1099511627776) (K : FnOK Try.prog 47 [.d (rqD s)] [] (.d (.int .i64 (rLim s))) []) : ∀ (m : List Pt) (j : Nat) (e : Int), 0 ≤ e → s.p.drop j = m → j ≤ s.p.length →
    (rBad (rLim s) e m = false → ∃ e', Loops Try.prog 0 (loopN Try.prog 33 0) ((I18 s e j).as 75) (.exit 0) ((I18 s e' s.p.length).as 75)) ∧
    (rBad (rLim s) e m = true → Loops Try.prog 0 (loopN Try.prog 33 0) ((I18 s e j).as 75) .ret ((O17 10).as 75))
  | [], j, e, e0, hd, hj => by
    have hjl : j = s.p.length := by
      have : (s.p.drop j).length = 0 := by rw [hd]; rfl
      rw [List.length_drop] at this
      omega
    subst hjl
    exact ⟨fun _ => ⟨e, .out (q18 s e) (by simp)⟩, fun h => by cases h⟩
  | x :: r, j, e, e0, hd, hj => by
    obtain ⟨hn, hd2⟩ := drop_cons hd
    have hjl := get_lt hn
    unfold rBad
    cases hx : pBad (rLim s) e x
    · have hx2 := pBad_end e0 hx
      obtain ⟨i1, i2⟩ := l18 s hb hl K r (j + 1) (pEnd x) hx2.1 hd2 (by omega)
      refine ⟨fun h => ?_, fun h => ?_⟩
      · obtain ⟨e', h'⟩ := i1 (by simpa using h)
        exact ⟨e', .next (r18 s hb e e0 _ rfl hl j x hn hx K) h'⟩
      · exact .next (r18 s hb e e0 _ rfl hl j x hn hx K) (i2 (by simpa using h))
    · exact ⟨fun h => by simp at h, fun _ => .out (e18 s hb e e0 _ rfl hl j x hn hx K) (by simp)⟩
set_option maxRecDepth 100000 in
set_option maxHeartbeats 1000000 in
theorem chk17o (s : Rq) (hb : Rb s) (ho : rOut s = true) : FnOK Try.prog 32 ([.d (rqD s)]) ([]) (.d (.int .i64 8)) ([]) := by
  refine fnOK_wp (p := condP (decide (s.b < (0 : Int))) ((D.bool (decide (s.b < (0 : Int))) = D.bool true) ∧ ((D.bool true = D.bool true) ∧ ((AV.d (D.int IntKind.i64 (8 : Int)) = AV.d (D.int IntKind.i64 (8 : Int))) ∧ (True)))) (condP (decide (s.b > (1099511627776 : Int))) ((D.bool (decide (s.b < (0 : Int))) = D.bool false) ∧ ((D.bool (decide (s.b > (1099511627776 : Int))) = D.bool true) ∧ ((AV.d (D.int IntKind.i64 (8 : Int)) = AV.d (D.int IntKind.i64 (8 : Int))) ∧ (True)))) ((D.bool (decide (s.b < (0 : Int))) = D.bool false) ∧ ((D.bool (decide (s.b > (1099511627776 : Int))) = D.bool false) ∧ (condP (decide ((↑s.r.length : Int) > min s.b (4096 : Int))) ((AV.d (D.int IntKind.i64 (8 : Int)) = AV.d (D.int IntKind.i64 (8 : Int))) ∧ (True)) ((FnOK Try.prog (41 : Nat) [AV.d (D.agg [D.int IntKind.i64 s.b, D.str s.r, D.sl (List.map ptD s.p)])] [] (AV.d (D.int IntKind.i64 (0 : Int))) []) ∧ ((AV.ptr (1008 : Nat) (0 : Nat) = AV.ptr (1008 : Nat) (0 : Nat)) ∧ ((AV.d (D.int IntKind.i64 s.b) = AV.d (D.int IntKind.i64 s.b)) ∧ ((AV.d (D.int IntKind.i64 (0 : Int)) = AV.d (D.int IntKind.i64 (rLim s))) ∧ ((AV.d (D.sl (List.map ptD s.p)) = AV.d (D.sl (List.map ptD s.p))) ∧ ((AV.d (D.int IntKind.i64 (↑(List.map ptD s.p).length : Int)) = AV.d (D.int IntKind.i64 (↑s.p.length : Int))) ∧ ((AV.d (D.int IntKind.i64 (0 : Int)) = AV.d (D.int IntKind.i64 (0 : Int))) ∧ ((Ob.box [AV.d (D.int IntKind.i64 s.b), AV.d (D.str s.r), AV.d (D.sl (List.map ptD s.p))] = Ob.box [AV.d (D.int IntKind.i64 s.b), AV.d (D.str s.r), AV.d (D.sl (List.map ptD s.p))]) ∧ ((LoopsS Try.prog (0 : Nat) (loopN Try.prog (32 : Nat) (0 : Nat)) (I17 s s.b (0 : Nat)) Exit.ret (O17 (10 : Int)) (63 : Nat)) ∧ ((AV.d (D.int IntKind.i64 (10 : Int)) = AV.d (D.int IntKind.i64 (8 : Int))) ∧ (True)))))))))))))))) (h := {G := [(41, gAns (.d (.int .i64 0)))]}) (subs := [⟨[], [], I17 s s.b 0, .ret, O17 10⟩]) (ws := []) (ρ := []) (by kernel_rfl) ?_
  have hb1 := hb.b
  have hb2 := hb.r
  have ho := of_decide_eq_true ho
  repeat' (first | with_reducible exact True.intro | with_reducible refine And.intro ?_ ?_ | with_reducible refine condP_dec (fun _ => ?_) (fun _ => ?_) | with_reducible refine condP_eq (fun _ => ?_) (fun _ => ?_) | with_reducible refine condP_ne (fun _ => ?_) (fun _ => ?_) | with_reducible refine condP_not (condP_dec (fun _ => ?_) (fun _ => ?_)) | with_reducible refine condP_not (condP_eq (fun _ => ?_) (fun _ => ?_)) | with_reducible refine condP_not (condP_intro (fun _ => ?_) (fun _ => ?_)) | with_reducible refine condP_intro (fun _ => ?_) (fun _ => ?_))
  all_goals first | rfl | exact dyes ‹_› | exact dno ‹_› | exact dyes (by omega) | exact dno (by omega) | (exfalso; omega) | (exfalso; simp_all; omega) | skip

set_option maxRecDepth 100000 in
set_option maxHeartbeats 1000000 in
theorem chk18o (s : Rq) (hb : Rb s) (ho : rOut s = true) : FnOK Try.prog 33 ([.d (rqD s)]) ([]) (.d (.int .i64 8)) ([]) := by
  refine fnOK_wp (p := condP (decide (s.b < (0 : Int))) ((D.bool (decide (s.b < (0 : Int))) = D.bool true) ∧ ((D.bool true = D.bool true) ∧ ((D.bool true = D.bool true) ∧ ((AV.d (D.int IntKind.i64 (8 : Int)) = AV.d (D.int IntKind.i64 (8 : Int))) ∧ (True))))) (condP (decide (s.b > (1099511627776 : Int))) ((D.bool (decide (s.b < (0 : Int))) = D.bool false) ∧ ((D.bool (decide (s.b > (1099511627776 : Int))) = D.bool true) ∧ ((D.bool true = D.bool true) ∧ ((AV.d (D.int IntKind.i64 (8 : Int)) = AV.d (D.int IntKind.i64 (8 : Int))) ∧ (True))))) (condP (decide ((↑s.r.length : Int) > (4096 : Int))) ((D.bool (decide (s.b < (0 : Int))) = D.bool false) ∧ ((D.bool (decide (s.b > (1099511627776 : Int))) = D.bool false) ∧ ((D.bool (decide ((↑s.r.length : Int) > (4096 : Int))) = D.bool true) ∧ ((AV.d (D.int IntKind.i64 (8 : Int)) = AV.d (D.int IntKind.i64 (8 : Int))) ∧ (True))))) ((D.bool (decide (s.b < (0 : Int))) = D.bool false) ∧ ((D.bool (decide (s.b > (1099511627776 : Int))) = D.bool false) ∧ ((D.bool (decide ((↑s.r.length : Int) > (4096 : Int))) = D.bool false) ∧ (condP (decide ((↑s.r.length : Int) > s.b)) ((AV.d (D.int IntKind.i64 (8 : Int)) = AV.d (D.int IntKind.i64 (8 : Int))) ∧ (True)) ((AV.ptr (1008 : Nat) (0 : Nat) = AV.ptr (1008 : Nat) (0 : Nat)) ∧ ((AV.d (D.int IntKind.i64 s.b) = AV.d (D.int IntKind.i64 s.b)) ∧ ((AV.d (D.int IntKind.i64 (0 : Int)) = AV.d (D.int IntKind.i64 (0 : Int))) ∧ ((Ob.box [AV.d (D.int IntKind.i64 s.b), AV.d (D.str s.r), AV.d (D.sl (List.map ptD s.p))] = Ob.box [AV.d (D.int IntKind.i64 s.b), AV.d (D.str s.r), AV.d (D.sl (List.map ptD s.p))]) ∧ ((LoopsS Try.prog (0 : Nat) (loopN Try.prog (33 : Nat) (0 : Nat)) (I18 s s.b (0 : Nat)) Exit.ret (O17 (10 : Int)) (75 : Nat)) ∧ ((AV.d (D.int IntKind.i64 (10 : Int)) = AV.d (D.int IntKind.i64 (8 : Int))) ∧ (True)))))))))))))) (h := {G := [(41, gAns (.d (.int .i64 0)))]}) (subs := [⟨[], [], I18 s s.b 0, .ret, O17 10⟩]) (ws := []) (ρ := []) (by kernel_rfl) ?_
  have hb1 := hb.b
  have hb2 := hb.r
  have ho := of_decide_eq_true ho
  repeat' (first | with_reducible exact True.intro | with_reducible refine And.intro ?_ ?_ | with_reducible refine condP_dec (fun _ => ?_) (fun _ => ?_) | with_reducible refine condP_eq (fun _ => ?_) (fun _ => ?_) | with_reducible refine condP_ne (fun _ => ?_) (fun _ => ?_) | with_reducible refine condP_not (condP_dec (fun _ => ?_) (fun _ => ?_)) | with_reducible refine condP_not (condP_eq (fun _ => ?_) (fun _ => ?_)) | with_reducible refine condP_not (condP_intro (fun _ => ?_) (fun _ => ?_)) | with_reducible refine condP_intro (fun _ => ?_) (fun _ => ?_))
  all_goals first | rfl | exact dyes ‹_› | exact dno ‹_› | exact dyes (by omega) | exact dno (by omega) | (exfalso; omega) | (exfalso; simp_all; omega) | skip

set_option maxRecDepth 100000 in
set_option maxHeartbeats 1000000 in
theorem chk17e (s : Rq) (hb : Rb s) (ho : rOut s = false) (lim : Int) (hm : rLim s = lim) (kl : FnOK Try.prog 41 [.d (rqD s)] [] (.d (.int .i64 (rLim s))) []) (hL : Loops Try.prog 0 (loopN Try.prog 32 0) ((I17 s s.b 0).as 63) .ret ((O17 10).as 63)) : FnOK Try.prog 32 ([.d (rqD s)]) ([]) (.d (.int .i64 10)) ([]) := by
  refine fnOK_wp (p := (D.bool (decide (s.b < (0 : Int))) = D.bool false) ∧ ((D.bool false = D.bool false) ∧ ((D.bool (decide (s.b > (1099511627776 : Int))) = D.bool false) ∧ ((D.bool false = D.bool false) ∧ ((D.bool (decide ((↑s.r.length : Int) > min s.b (4096 : Int))) = D.bool false) ∧ ((FnOK Try.prog (41 : Nat) [AV.d (D.agg [D.int IntKind.i64 s.b, D.str s.r, D.sl (List.map ptD s.p)])] [] (AV.d (D.int IntKind.i64 (rLim s))) []) ∧ ((AV.ptr (1008 : Nat) (0 : Nat) = AV.ptr (1008 : Nat) (0 : Nat)) ∧ ((AV.d (D.int IntKind.i64 s.b) = AV.d (D.int IntKind.i64 s.b)) ∧ ((AV.d (D.int IntKind.i64 (rLim s)) = AV.d (D.int IntKind.i64 (rLim s))) ∧ ((AV.d (D.sl (List.map ptD s.p)) = AV.d (D.sl (List.map ptD s.p))) ∧ ((AV.d (D.int IntKind.i64 (↑(List.map ptD s.p).length : Int)) = AV.d (D.int IntKind.i64 (↑s.p.length : Int))) ∧ ((AV.d (D.int IntKind.i64 (0 : Int)) = AV.d (D.int IntKind.i64 (0 : Int))) ∧ ((Ob.box [AV.d (D.int IntKind.i64 s.b), AV.d (D.str s.r), AV.d (D.sl (List.map ptD s.p))] = Ob.box [AV.d (D.int IntKind.i64 s.b), AV.d (D.str s.r), AV.d (D.sl (List.map ptD s.p))]) ∧ ((LoopsS Try.prog (0 : Nat) (loopN Try.prog (32 : Nat) (0 : Nat)) (I17 s s.b (0 : Nat)) Exit.ret (O17 (10 : Int)) (63 : Nat)) ∧ ((AV.d (D.int IntKind.i64 (10 : Int)) = AV.d (D.int IntKind.i64 (10 : Int))) ∧ (True)))))))))))))))) (h := {G := [(41, gAns (.d (.int .i64 (rLim s))))], H := [(1, [(2, .val (.bool false)), (6, .val (.bool false)), (15, .val (.bool false))])]}) (subs := [⟨[], [], I17 s s.b 0, .ret, O17 10⟩]) (ws := []) (ρ := []) (by kernel_rfl) ?_
  have hb1 := hb.b
  have hb2 := hb.r
  have ho := of_decide_eq_false ho
  simp only [List.length_map]
  repeat' (first | with_reducible exact True.intro | with_reducible refine And.intro ?_ ?_ | with_reducible refine condP_dec (fun _ => ?_) (fun _ => ?_) | with_reducible refine condP_eq (fun _ => ?_) (fun _ => ?_) | with_reducible refine condP_ne (fun _ => ?_) (fun _ => ?_) | with_reducible refine condP_not (condP_dec (fun _ => ?_) (fun _ => ?_)) | with_reducible refine condP_not (condP_eq (fun _ => ?_) (fun _ => ?_)) | with_reducible refine condP_not (condP_intro (fun _ => ?_) (fun _ => ?_)) | with_reducible refine condP_intro (fun _ => ?_) (fun _ => ?_))
  all_goals first | exact kl | exact hL | rfl | exact dyes (by omega) | exact dno (by omega) | omega | skip

set_option maxRecDepth 100000 in
set_option maxHeartbeats 1000000 in
theorem chk17y (s : Rq) (hb : Rb s) (ho : rOut s = false) (e : Int) (kl : FnOK Try.prog 41 [.d (rqD s)] [] (.d (.int .i64 (rLim s))) []) (hL : Loops Try.prog 0 (loopN Try.prog 32 0) ((I17 s s.b 0).as 63) (.exit 0) ((I17 s e s.p.length).as 63)) : FnOK Try.prog 32 ([.d (rqD s)]) ([]) (.d (.int .i64 0)) ([]) := by
  refine fnOK_wp (p := (D.bool (decide (s.b < (0 : Int))) = D.bool false) ∧ ((D.bool false = D.bool false) ∧ ((D.bool (decide (s.b > (1099511627776 : Int))) = D.bool false) ∧ ((D.bool false = D.bool false) ∧ ((D.bool (decide ((↑s.r.length : Int) > min s.b (4096 : Int))) = D.bool false) ∧ ((FnOK Try.prog (41 : Nat) [AV.d (D.agg [D.int IntKind.i64 s.b, D.str s.r, D.sl (List.map ptD s.p)])] [] (AV.d (D.int IntKind.i64 (rLim s))) []) ∧ ((AV.ptr (1008 : Nat) (0 : Nat) = AV.ptr (1008 : Nat) (0 : Nat)) ∧ ((AV.d (D.int IntKind.i64 s.b) = AV.d (D.int IntKind.i64 s.b)) ∧ ((AV.d (D.int IntKind.i64 (rLim s)) = AV.d (D.int IntKind.i64 (rLim s))) ∧ ((AV.d (D.sl (List.map ptD s.p)) = AV.d (D.sl (List.map ptD s.p))) ∧ ((AV.d (D.int IntKind.i64 (↑(List.map ptD s.p).length : Int)) = AV.d (D.int IntKind.i64 (↑s.p.length : Int))) ∧ ((AV.d (D.int IntKind.i64 (0 : Int)) = AV.d (D.int IntKind.i64 (0 : Int))) ∧ ((Ob.box [AV.d (D.int IntKind.i64 s.b), AV.d (D.str s.r), AV.d (D.sl (List.map ptD s.p))] = Ob.box [AV.d (D.int IntKind.i64 s.b), AV.d (D.str s.r), AV.d (D.sl (List.map ptD s.p))]) ∧ ((LoopsS Try.prog (0 : Nat) (loopN Try.prog (32 : Nat) (0 : Nat)) (I17 s s.b (0 : Nat)) (Exit.exit (0 : Nat)) (I17 s e s.p.length) (63 : Nat)) ∧ ((AV.d (D.int IntKind.i64 (0 : Int)) = AV.d (D.int IntKind.i64 (0 : Int))) ∧ (True)))))))))))))))) (h := {G := [(41, gAns (.d (.int .i64 (rLim s))))], H := [(1, [(2, .val (.bool false)), (6, .val (.bool false)), (15, .val (.bool false))])]}) (subs := [⟨[], [], I17 s s.b 0, .exit 0, I17 s e s.p.length⟩]) (ws := []) (ρ := []) (by kernel_rfl) ?_
  have hb1 := hb.b
  have hb2 := hb.r
  have ho := of_decide_eq_false ho
  simp only [List.length_map]
  repeat' (first | with_reducible exact True.intro | with_reducible refine And.intro ?_ ?_ | with_reducible refine condP_dec (fun _ => ?_) (fun _ => ?_) | with_reducible refine condP_eq (fun _ => ?_) (fun _ => ?_) | with_reducible refine condP_ne (fun _ => ?_) (fun _ => ?_) | with_reducible refine condP_not (condP_dec (fun _ => ?_) (fun _ => ?_)) | with_reducible refine condP_not (condP_eq (fun _ => ?_) (fun _ => ?_)) | with_reducible refine condP_not (condP_intro (fun _ => ?_) (fun _ => ?_)) | with_reducible refine condP_intro (fun _ => ?_) (fun _ => ?_))
  all_goals first | exact kl | exact hL | rfl | exact dyes (by omega) | exact dno (by omega) | omega | skip

set_option maxRecDepth 100000 in
set_option maxHeartbeats 1000000 in
theorem chk18e (s : Rq) (hb : Rb s) (ho : rOut s = false) (kl : True) (hL : Loops Try.prog 0 (loopN Try.prog 33 0) ((I18 s s.b 0).as 75) .ret ((O17 10).as 75)) : FnOK Try.prog 33 ([.d (rqD s)]) ([]) (.d (.int .i64 10)) ([]) := by
  refine fnOK_wp (p := (D.bool (decide (s.b < (0 : Int))) = D.bool false) ∧ ((D.bool false = D.bool false) ∧ ((D.bool (decide (s.b > (1099511627776 : Int))) = D.bool false) ∧ ((D.bool false = D.bool false) ∧ ((D.bool (decide ((↑s.r.length : Int) > (4096 : Int))) = D.bool false) ∧ ((D.bool false = D.bool false) ∧ ((D.bool (decide ((↑s.r.length : Int) > s.b)) = D.bool false) ∧ ((AV.ptr (1008 : Nat) (0 : Nat) = AV.ptr (1008 : Nat) (0 : Nat)) ∧ ((AV.d (D.int IntKind.i64 s.b) = AV.d (D.int IntKind.i64 s.b)) ∧ ((AV.d (D.int IntKind.i64 (0 : Int)) = AV.d (D.int IntKind.i64 (0 : Int))) ∧ ((Ob.box [AV.d (D.int IntKind.i64 s.b), AV.d (D.str s.r), AV.d (D.sl (List.map ptD s.p))] = Ob.box [AV.d (D.int IntKind.i64 s.b), AV.d (D.str s.r), AV.d (D.sl (List.map ptD s.p))]) ∧ ((LoopsS Try.prog (0 : Nat) (loopN Try.prog (33 : Nat) (0 : Nat)) (I18 s s.b (0 : Nat)) Exit.ret (O17 (10 : Int)) (75 : Nat)) ∧ ((AV.d (D.int IntKind.i64 (10 : Int)) = AV.d (D.int IntKind.i64 (10 : Int))) ∧ (True)))))))))))))) (h := {H := [(1, [(2, .val (.bool false)), (6, .val (.bool false)), (12, .val (.bool false)), (20, .val (.bool false))])]}) (subs := [⟨[], [], I18 s s.b 0, .ret, O17 10⟩]) (ws := []) (ρ := []) (by kernel_rfl) ?_
  have hb1 := hb.b
  have hb2 := hb.r
  have ho := of_decide_eq_false ho
  simp only [List.length_map]
  repeat' (first | with_reducible exact True.intro | with_reducible refine And.intro ?_ ?_ | with_reducible refine condP_dec (fun _ => ?_) (fun _ => ?_) | with_reducible refine condP_eq (fun _ => ?_) (fun _ => ?_) | with_reducible refine condP_ne (fun _ => ?_) (fun _ => ?_) | with_reducible refine condP_not (condP_dec (fun _ => ?_) (fun _ => ?_)) | with_reducible refine condP_not (condP_eq (fun _ => ?_) (fun _ => ?_)) | with_reducible refine condP_not (condP_intro (fun _ => ?_) (fun _ => ?_)) | with_reducible refine condP_intro (fun _ => ?_) (fun _ => ?_))
  all_goals first | exact kl | exact hL | rfl | exact dyes (by omega) | exact dno (by omega) | omega | skip

set_option maxRecDepth 100000 in
set_option maxHeartbeats 1000000 in
theorem chk18y (s : Rq) (hb : Rb s) (ho : rOut s = false) (e : Int) (kl : True) (hL : Loops Try.prog 0 (loopN Try.prog 33 0) ((I18 s s.b 0).as 75) (.exit 0) ((I18 s e s.p.length).as 75)) : FnOK Try.prog 33 ([.d (rqD s)]) ([]) (.d (.int .i64 0)) ([]) := by
  refine fnOK_wp (p := (D.bool (decide (s.b < (0 : Int))) = D.bool false) ∧ ((D.bool false = D.bool false) ∧ ((D.bool (decide (s.b > (1099511627776 : Int))) = D.bool false) ∧ ((D.bool false = D.bool false) ∧ ((D.bool (decide ((↑s.r.length : Int) > (4096 : Int))) = D.bool false) ∧ ((D.bool false = D.bool false) ∧ ((D.bool (decide ((↑s.r.length : Int) > s.b)) = D.bool false) ∧ ((AV.ptr (1008 : Nat) (0 : Nat) = AV.ptr (1008 : Nat) (0 : Nat)) ∧ ((AV.d (D.int IntKind.i64 s.b) = AV.d (D.int IntKind.i64 s.b)) ∧ ((AV.d (D.int IntKind.i64 (0 : Int)) = AV.d (D.int IntKind.i64 (0 : Int))) ∧ ((Ob.box [AV.d (D.int IntKind.i64 s.b), AV.d (D.str s.r), AV.d (D.sl (List.map ptD s.p))] = Ob.box [AV.d (D.int IntKind.i64 s.b), AV.d (D.str s.r), AV.d (D.sl (List.map ptD s.p))]) ∧ ((LoopsS Try.prog (0 : Nat) (loopN Try.prog (33 : Nat) (0 : Nat)) (I18 s s.b (0 : Nat)) (Exit.exit (0 : Nat)) (I18 s e s.p.length) (75 : Nat)) ∧ ((AV.d (D.int IntKind.i64 (0 : Int)) = AV.d (D.int IntKind.i64 (0 : Int))) ∧ (True)))))))))))))) (h := {H := [(1, [(2, .val (.bool false)), (6, .val (.bool false)), (12, .val (.bool false)), (20, .val (.bool false))])]}) (subs := [⟨[], [], I18 s s.b 0, .exit 0, I18 s e s.p.length⟩]) (ws := []) (ρ := []) (by kernel_rfl) ?_
  have hb1 := hb.b
  have hb2 := hb.r
  have ho := of_decide_eq_false ho
  simp only [List.length_map]
  repeat' (first | with_reducible exact True.intro | with_reducible refine And.intro ?_ ?_ | with_reducible refine condP_dec (fun _ => ?_) (fun _ => ?_) | with_reducible refine condP_eq (fun _ => ?_) (fun _ => ?_) | with_reducible refine condP_ne (fun _ => ?_) (fun _ => ?_) | with_reducible refine condP_not (condP_dec (fun _ => ?_) (fun _ => ?_)) | with_reducible refine condP_not (condP_eq (fun _ => ?_) (fun _ => ?_)) | with_reducible refine condP_not (condP_intro (fun _ => ?_) (fun _ => ?_)) | with_reducible refine condP_intro (fun _ => ?_) (fun _ => ?_))
  all_goals first | exact kl | exact hL | rfl | exact dyes (by omega) | exact dno (by omega) | omega | skip

theorem rOut_no {s : Rq} (h : rOut s = false) : 0 ≤ s.b ∧ s.b ≤ 1099511627776 ∧ s.r.length ≤ 4096 ∧ (s.r.length : Int) ≤ s.b := by
  have := of_decide_eq_false h
  omega
theorem rLim_le (s : Rq) : rLim s ≤ 1099511627776 := by unfold rLim; omega
theorem chk17 (s : Rq) (hb : Rb s) : FnOK Try.prog 32 [.d (rqD s)] [] (.d (.int .i64 (rChk s))) [] := by
  unfold rChk
  cases ho : rOut s
  · have h := rOut_no ho
    have kl := lim26 s h.1 h.2.1 hb.r
    obtain ⟨i1, i2⟩ := l17 s hb (rLim_le s) trivial s.p 0 s.b h.1 rfl (by omega)
    rw [if_neg (by simp)]
    cases hq : rBad (rLim s) s.b s.p
    · obtain ⟨e, hL⟩ := i1 hq
      exact chk17y s hb ho e kl hL
    · exact chk17e s hb ho _ rfl kl (i2 hq)
  · exact chk17o s hb ho
theorem chk18 (s : Rq) (hb : Rb s) : FnOK Try.prog 33 [.d (rqD s)] [] (.d (.int .i64 (rChk s))) [] := by
  unfold rChk
  cases ho : rOut s
  · have h := rOut_no ho
    have kl := lim27 s h.1 h.2.1 hb.r
    obtain ⟨i1, i2⟩ := l18 s hb (rLim_le s) kl s.p 0 s.b h.1 rfl (by omega)
    rw [if_neg (by simp)]
    cases hq : rBad (rLim s) s.b s.p
    · obtain ⟨e, hL⟩ := i1 hq
      exact chk18y s hb ho e trivial hL
    · exact chk18e s hb ho trivial (i2 hq)
  · exact chk18o s hb ho
end Go.Proofs.Ytfacpafkldmkcaa.C12
