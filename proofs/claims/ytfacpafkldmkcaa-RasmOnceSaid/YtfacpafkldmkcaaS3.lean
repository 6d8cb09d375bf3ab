/-
laws 24: joined; awake. No condition beyond the statements' own.
-/
import Derived.Test.YtfacpafkldmkcaaS2
set_option linter.unusedSimpArgs false
set_option linter.unusedVariables false
namespace Go.Proofs.Ytfacpafkldmkcaa
open Sx Go.RowKit C12

theorem closed27' {x : Rs} (h : Ok x.s) (hl : x.s.p.length < 1000000) (to : Int) (fin : Bool) : FnOK Try.prog 27 [.d (rsD x), .d (.int .i64 to), .d (.bool fin)] [] (.d (.bool (sClosed x to fin))) [] :=
  closed27 x to fin _ rfl (hi35 h hl x.e)
theorem put9 {x : Rs} (hr : Rr x) (hl : x.s.p.length < 700000) (k : Int) (k0 : -9223372036854775808 ≤ k ∧ k < 9223372036854775808) (d : List UInt8) (hd : rHeld x.s + d.length < 700000) (fin : Bool) :
    FnOK Try.prog 9 [.d (rsD x), .d (.int .i64 k), .d (.str d), .d (.bool fin)] [] (.tup [.d (rsD (sPut x k d fin).1), .d (.int .i64 (sPut x k d fin).2.1), .d (.int .u32 (sPut x k d fin).2.2)]) [] := by
  have k1 := chk13 hr (by omega)
  unfold sPut
  by_cases h : k < 0 ∨ k > 1099511627776 - d.length ∨ sChk x ≠ 0
  · rw [if_pos h]; exact put9a x k k0 d (by omega) fin _ h k1 trivial trivial trivial
  · rw [if_neg h]
    have h0 : sChk x = 0 := by omega
    rw [h0] at k1
    have hz := sChk_zero h0
    have k2 := closed27' hz.1 (by omega) (k + d.length) fin
    by_cases hc : sClosed x (k + d.length) fin = true
    · rw [if_pos hc]
      rw [hc] at k2
      exact put9b x k k0 d (by omega) fin (by omega) k1 k2 trivial
    · rw [if_neg hc]
      rw [Bool.eq_false_iff.2 hc] at k2
      exact put9c x k k0 d (by omega) fin (by omega) k1 k2 _ _ (put11 x.s hr.s (by omega) k d (by omega)) _ rfl
theorem put10 {x : Rs} (hr : Rr x) (hl : x.s.p.length < 700000) (k : Int) (k0 : -9223372036854775808 ≤ k ∧ k < 9223372036854775808) (d : List UInt8) (hd : rHeld x.s + d.length < 700000) (fin : Bool) :
    FnOK Try.prog 10 [.d (rsD x), .d (.int .i64 k), .d (.str d), .d (.bool fin)] [] (.tup [.d (rsD (sPut x k d fin).1), .d (.int .i64 (sPut x k d fin).2.1), .d (.int .i64 (sPut x k d fin).2.2)]) [] := by
  have k1 := chk14' hr (by omega)
  unfold sPut
  by_cases h : k < 0 ∨ k > 1099511627776 - d.length ∨ sChk x ≠ 0
  · rw [if_pos h]; exact put10a x k k0 d (by omega) fin _ h k1 trivial trivial trivial
  · rw [if_neg h]
    have h0 : sChk x = 0 := by omega
    rw [h0] at k1
    have hz := sChk_zero h0
    have k2 := hi20 hz.1 (by omega) x.e
    have hn : (0 : Int) ≤ sHigh x := (hi_bd hz.1).1
    by_cases hc : sClosed x (k + d.length) fin = true
    · rw [if_pos hc]
      by_cases c1 : x.e ≥ 0 ∧ (k + d.length > x.e ∨ fin = true ∧ k + d.length ≠ x.e)
      · exact put10b x k k0 d (by omega) fin (by omega) k1 _ k2 trivial c1 trivial
      · refine put10c x k k0 d (by omega) fin (by omega) k1 _ k2 trivial c1 ?_ trivial
        unfold sClosed at hc
        by_cases g : x.e ≥ 0
        · rw [if_pos g] at hc
          cases fin <;> simp at hc c1 ⊢ <;> omega
        · rw [if_neg g] at hc
          simpa using hc
    · rw [if_neg hc]
      have c1 : ¬(x.e ≥ 0 ∧ (k + d.length > x.e ∨ fin = true ∧ k + d.length ≠ x.e)) := fun ⟨g, g2⟩ => hc (by
        unfold sClosed
        rw [if_pos g]
        cases fin <;> simp at g2 ⊢ <;> omega)
      have c2 : ¬(fin = true ∧ k + d.length < sHigh x) := fun ⟨g, g2⟩ => by
        unfold sClosed at hc
        by_cases g3 : x.e ≥ 0
        · rw [if_pos g3] at hc
          subst g
          simp at hc
          omega
        · rw [if_neg g3] at hc
          subst g
          simp at hc
          omega
      exact put10d x k k0 d (by omega) fin (by omega) k1 _ k2 trivial c1 c2 _ _ (put12 x.s hr.s k d (by omega)) _ rfl
theorem rRead_rb {s : Rq} (h : Rb s) (n : Int) : Rb (rRead s n).1 ∧ (rRead s n).1.p = s.p := by
  have h1 := h.r
  unfold rRead
  split
  · exact ⟨h, rfl⟩
  · exact ⟨⟨h.b, by simp only [List.length_drop]; omega, h.p, h.d⟩, rfl⟩
theorem ended17' {x : Rs} (hr : Rr x) (hl : x.s.p.length < 1000000) : FnOK Try.prog 17 [.d (rsD x)] [] (.d (.bool (sEnded x))) [] := ended17 x (whole15 x (chk13 hr hl))
theorem ended18' {x : Rs} (hr : Rr x) (hl : x.s.p.length < 1000000) : FnOK Try.prog 18 [.d (rsD x)] [] (.d (.bool (sEnded x))) [] := ended18 x (whole16 x (chk14' hr hl))
theorem sread11 {x : Rs} (hr : Rr x) (hl : x.s.p.length < 1000000) (n : Int) : FnOK Try.prog 11 [.d (rsD x), .d (.int .i64 n)] [] (.tup [.d (rsD (sRead x n).1), .d (.str (sRead x n).2.1), .d (.bool (sRead x n).2.2)]) [] := by
  obtain ⟨r1, r2⟩ := rRead_rb hr.s n
  exact read11 x n _ _ _ (read13 x.s hr.s hl n) (ended17' (x := ⟨_, x.e⟩) ⟨r1, hr.e⟩ (by show (rRead x.s n).1.p.length < _; rw [r2]; exact hl))
theorem sread12 {x : Rs} (hr : Rr x) (hl : x.s.p.length < 1000000) (n : Int) : FnOK Try.prog 12 [.d (rsD x), .d (.int .i64 n)] [] (.tup [.d (rsD (sRead x n).1), .d (.str (sRead x n).2.1), .d (.bool (sRead x n).2.2)]) [] := by
  obtain ⟨r1, r2⟩ := rRead_rb hr.s n
  exact read12 x n _ _ _ (read14 x.s hr.s n) (ended18' (x := ⟨_, x.e⟩) ⟨r1, hr.e⟩ (by show (rRead x.s n).1.p.length < _; rw [r2]; exact hl))
/-! ### Awake -/
def wn : Rs := ⟨w0, -1⟩
def va : Rs := ⟨⟨0, [], [⟨3, [100, 101]⟩]⟩, 5⟩
def vb : Rs := ⟨⟨5, [97, 98, 99, 100, 101], []⟩, 5⟩
def vx : Rs := ⟨⟨5, [101], []⟩, 5⟩
def vy : Rs := ⟨⟨5, [], []⟩, 5⟩
def vz : Rs := ⟨w0, -2⟩
theorem tiny_rr (x : Rs) (h : decide (x.s.b = 0 ∨ x.s.b = 5) = true) (h2 : x.s.r.length < 10) (h3 : x.s.p.length < 10) (h4 : ∀ y ∈ x.s.p, (0 ≤ y.a ∧ y.a ≤ 5) ∧ y.d.length < 10) (h5 : -9 ≤ x.e ∧ x.e < 9) : Rr x := by
  have h := of_decide_eq_true h
  exact ⟨⟨by omega, by omega, by omega, fun y hy => by have := h4 y hy; exact ⟨by omega, by omega⟩⟩, by omega⟩
set_option maxRecDepth 100000 in
set_option maxHeartbeats 1000000 in
theorem aw7  : FnOK Try.prog 7 ([]) ([]) (.d (.bool true)) ([]) := by
  refine fnOK_wp (p := (FnOK Try.prog (24 : Nat) [] [] (AV.d (D.agg [D.int IntKind.i64 (0 : Int), D.str [], D.sl [], D.int IntKind.i64 (-1 : Int)])) []) ∧ ((FnOK Try.prog (9 : Nat) [AV.d (D.agg [D.int IntKind.i64 (0 : Int), D.str [], D.sl [], D.int IntKind.i64 (-1 : Int)]), AV.d (D.int IntKind.i64 (3 : Int)), AV.d (D.str [(100 : UInt8), (101 : UInt8)]), AV.d (D.bool true)] [] (AV.tup [AV.d (D.agg [D.int IntKind.i64 (0 : Int), D.str [], D.sl [D.agg [D.int IntKind.i64 (3 : Int), D.str [(100 : UInt8), (101 : UInt8)]]], D.int IntKind.i64 (5 : Int)]), AV.d (D.int IntKind.i64 (2 : Int)), AV.d (D.int IntKind.u32 (0 : Int))]) []) ∧ ((FnOK Try.prog (9 : Nat) [AV.d (D.agg [D.int IntKind.i64 (0 : Int), D.str [], D.sl [D.agg [D.int IntKind.i64 (3 : Int), D.str [(100 : UInt8), (101 : UInt8)]]], D.int IntKind.i64 (5 : Int)]), AV.d (D.int IntKind.i64 (4 : Int)), AV.d (D.str [(101 : UInt8), (102 : UInt8)]), AV.d (D.bool false)] [] (AV.tup [AV.d (D.agg [D.int IntKind.i64 (0 : Int), D.str [], D.sl [D.agg [D.int IntKind.i64 (3 : Int), D.str [(100 : UInt8), (101 : UInt8)]]], D.int IntKind.i64 (5 : Int)]), AV.d (D.int IntKind.i64 (0 : Int)), AV.d (D.int IntKind.u32 (5 : Int))]) []) ∧ ((FnOK Try.prog (9 : Nat) [AV.d (D.agg [D.int IntKind.i64 (0 : Int), D.str [], D.sl [D.agg [D.int IntKind.i64 (3 : Int), D.str [(100 : UInt8), (101 : UInt8)]]], D.int IntKind.i64 (5 : Int)]), AV.d (D.int IntKind.i64 (3 : Int)), AV.d (D.str [(100 : UInt8)]), AV.d (D.bool true)] [] (AV.tup [AV.d (D.agg [D.int IntKind.i64 (0 : Int), D.str [], D.sl [D.agg [D.int IntKind.i64 (3 : Int), D.str [(100 : UInt8), (101 : UInt8)]]], D.int IntKind.i64 (5 : Int)]), AV.d (D.int IntKind.i64 (0 : Int)), AV.d (D.int IntKind.u32 (5 : Int))]) []) ∧ ((FnOK Try.prog (9 : Nat) [AV.d (D.agg [D.int IntKind.i64 (0 : Int), D.str [], D.sl [D.agg [D.int IntKind.i64 (3 : Int), D.str [(100 : UInt8), (101 : UInt8)]]], D.int IntKind.i64 (5 : Int)]), AV.d (D.int IntKind.i64 (0 : Int)), AV.d (D.str [(97 : UInt8), (98 : UInt8), (99 : UInt8), (100 : UInt8)]), AV.d (D.bool false)] [] (AV.tup [AV.d (D.agg [D.int IntKind.i64 (5 : Int), D.str [(97 : UInt8), (98 : UInt8), (99 : UInt8), (100 : UInt8), (101 : UInt8)], D.sl [], D.int IntKind.i64 (5 : Int)]), AV.d (D.int IntKind.i64 (3 : Int)), AV.d (D.int IntKind.u32 (0 : Int))]) []) ∧ ((FnOK Try.prog (11 : Nat) [AV.d (D.agg [D.int IntKind.i64 (5 : Int), D.str [(97 : UInt8), (98 : UInt8), (99 : UInt8), (100 : UInt8), (101 : UInt8)], D.sl [], D.int IntKind.i64 (5 : Int)]), AV.d (D.int IntKind.i64 (4 : Int))] [] (AV.tup [AV.d (D.agg [D.int IntKind.i64 (5 : Int), D.str [(101 : UInt8)], D.sl [], D.int IntKind.i64 (5 : Int)]), AV.d (D.str [(97 : UInt8), (98 : UInt8), (99 : UInt8), (100 : UInt8)]), AV.d (D.bool false)]) []) ∧ ((FnOK Try.prog (11 : Nat) [AV.d (D.agg [D.int IntKind.i64 (5 : Int), D.str [(101 : UInt8)], D.sl [], D.int IntKind.i64 (5 : Int)]), AV.d (D.int IntKind.i64 (9 : Int))] [] (AV.tup [AV.d (D.agg [D.int IntKind.i64 (5 : Int), D.str [], D.sl [], D.int IntKind.i64 (5 : Int)]), AV.d (D.str [(101 : UInt8)]), AV.d (D.bool true)]) []) ∧ ((D.bool true = D.bool true) ∧ ((D.bool true = D.bool true) ∧ ((D.bool true = D.bool true) ∧ ((D.bool true = D.bool true) ∧ ((D.bool true = D.bool true) ∧ ((D.bool true = D.bool true) ∧ ((FnOK Try.prog (19 : Nat) [AV.d (D.agg [D.int IntKind.i64 (0 : Int), D.str [], D.sl [D.agg [D.int IntKind.i64 (3 : Int), D.str [(100 : UInt8), (101 : UInt8)]]], D.int IntKind.i64 (5 : Int)])] [] (AV.d (D.int IntKind.i64 (5 : Int))) []) ∧ ((D.bool true = D.bool true) ∧ ((FnOK Try.prog (15 : Nat) [AV.d (D.agg [D.int IntKind.i64 (0 : Int), D.str [], D.sl [D.agg [D.int IntKind.i64 (3 : Int), D.str [(100 : UInt8), (101 : UInt8)]]], D.int IntKind.i64 (5 : Int)])] [] (AV.d (D.bool false)) []) ∧ ((D.bool true = D.bool true) ∧ ((FnOK Try.prog (15 : Nat) [AV.d (D.agg [D.int IntKind.i64 (5 : Int), D.str [(97 : UInt8), (98 : UInt8), (99 : UInt8), (100 : UInt8), (101 : UInt8)], D.sl [], D.int IntKind.i64 (5 : Int)])] [] (AV.d (D.bool true)) []) ∧ ((D.bool true = D.bool true) ∧ ((FnOK Try.prog (17 : Nat) [AV.d (D.agg [D.int IntKind.i64 (5 : Int), D.str [(97 : UInt8), (98 : UInt8), (99 : UInt8), (100 : UInt8), (101 : UInt8)], D.sl [], D.int IntKind.i64 (5 : Int)])] [] (AV.d (D.bool false)) []) ∧ ((D.bool true = D.bool true) ∧ ((D.bool true = D.bool true) ∧ ((D.bool true = D.bool true) ∧ ((D.bool true = D.bool true) ∧ ((D.bool true = D.bool true) ∧ ((FnOK Try.prog (17 : Nat) [AV.d (D.agg [D.int IntKind.i64 (5 : Int), D.str [], D.sl [], D.int IntKind.i64 (5 : Int)])] [] (AV.d (D.bool true)) []) ∧ ((D.bool true = D.bool true) ∧ ((FnOK Try.prog (13 : Nat) [AV.d (D.agg [D.int IntKind.i64 (5 : Int), D.str [], D.sl [], D.int IntKind.i64 (5 : Int)])] [] (AV.d (D.int IntKind.i64 (0 : Int))) []) ∧ ((D.bool true = D.bool true) ∧ ((FnOK Try.prog (13 : Nat) [AV.d (D.agg [D.int IntKind.i64 (0 : Int), D.str [], D.sl [], D.int IntKind.i64 (-2 : Int)])] [] (AV.d (D.int IntKind.i64 (8 : Int))) []) ∧ ((D.bool true = D.bool true) ∧ ((FnOK Try.prog (23 : Nat) [AV.d (D.agg [D.int IntKind.i64 (0 : Int), D.str [], D.sl [D.agg [D.int IntKind.i64 (3 : Int), D.str [(100 : UInt8), (101 : UInt8)]]], D.int IntKind.i64 (5 : Int)]), AV.d (D.agg [D.int IntKind.i64 (5 : Int), D.str [(97 : UInt8), (98 : UInt8), (99 : UInt8), (100 : UInt8), (101 : UInt8)], D.sl [], D.int IntKind.i64 (5 : Int)])] [] (AV.d (D.bool false)) []) ∧ ((D.bool true = D.bool true) ∧ ((FnOK Try.prog (23 : Nat) [AV.d (D.agg [D.int IntKind.i64 (5 : Int), D.str [], D.sl [], D.int IntKind.i64 (5 : Int)]), AV.d (D.agg [D.int IntKind.i64 (5 : Int), D.str [], D.sl [], D.int IntKind.i64 (5 : Int)])] [] (AV.d (D.bool true)) []) ∧ ((AV.d (D.bool true) = AV.d (D.bool true)) ∧ (True)))))))))))))))))))))))))))))))))))) (h := {chain := true, H := [(1, [(1, .call [] (.tup [.d (rsD va), .d (.int .i64 2), .d (.int .u32 0)]) [])]), (2, [(1, .call [] (.tup [.d (rsD va), .d (.int .i64 0), .d (.int .u32 5)]) [])]), (3, [(1, .call [] (.tup [.d (rsD va), .d (.int .i64 0), .d (.int .u32 5)]) [])]), (4, [(1, .call [] (.tup [.d (rsD vb), .d (.int .i64 3), .d (.int .u32 0)]) [])]), (5, [(1, .call [] (.tup [.d (rsD vx), .d (.str [97, 98, 99, 100]), .d (.bool false)]) [])]), (6, [(1, .call [] (.tup [.d (rsD vy), .d (.str [101]), .d (.bool true)]) [])]), (7, [(24, .call [] (.d (.int .i64 5)) []), (29, .call [] (.d (.bool false)) []), (34, .call [] (.d (.bool true)) []), (38, .call [] (.d (.bool false)) []), (58, .call [] (.d (.bool true)) []), (62, .call [] (.d (.int .i64 0)) []), (67, .call [] (.d (.int .i64 8)) []), (73, .call [] (.d (.bool false)) []), (79, .call [] (.d (.bool true)) [])])], G := [(24, gAns (.d (rsD wn)))]}) (subs := []) (ws := []) (ρ := []) (by kernel_rfl) ?_
  have rn : Rr wn := tiny_rr _ (by decide) (by decide) (by decide) (by decide) (by decide)
  have ra : Rr va := tiny_rr _ (by decide) (by decide) (by decide) (by decide) (by decide)
  have rb : Rr vb := tiny_rr _ (by decide) (by decide) (by decide) (by decide) (by decide)
  have rx : Rr vx := tiny_rr _ (by decide) (by decide) (by decide) (by decide) (by decide)
  have ry : Rr vy := tiny_rr _ (by decide) (by decide) (by decide) (by decide) (by decide)
  have rz : Rr vz := tiny_rr _ (by decide) (by decide) (by decide) (by decide) (by decide)
  have c1 := put9 rn (by decide) 3 (by decide) [100, 101] (by decide) true
  rw [show sPut wn 3 [100, 101] true = (va, 2, 0) by decide +kernel] at c1
  have c2 := put9 ra (by decide) 4 (by decide) [101, 102] (by decide) false
  rw [show sPut va 4 [101, 102] false = (va, 0, 5) by decide +kernel] at c2
  have c3 := put9 ra (by decide) 3 (by decide) [100] (by decide) true
  rw [show sPut va 3 [100] true = (va, 0, 5) by decide +kernel] at c3
  have c4 := put9 ra (by decide) 0 (by decide) [97, 98, 99, 100] (by decide) false
  rw [show sPut va 0 [97, 98, 99, 100] false = (vb, 3, 0) by decide +kernel] at c4
  have c5 := sread11 rb (by decide) 4
  rw [show sRead vb 4 = (vx, [97, 98, 99, 100], false) by decide +kernel] at c5
  have c6 := sread11 rx (by decide) 9
  rw [show sRead vx 9 = (vy, [101], true) by decide +kernel] at c6
  have c7 := hi19 (x := va) (ok_iff.1 (by decide +kernel)) (by decide)
  rw [show sHigh va = 5 by decide +kernel] at c7
  have c8 := whole15 va (chk13 ra (by decide))
  rw [show sWhole va = false by decide +kernel] at c8
  have c9 := whole15 vb (chk13 rb (by decide))
  rw [show sWhole vb = true by decide +kernel] at c9
  have ca := ended17' rb (by decide)
  rw [show sEnded vb = false by decide +kernel] at ca
  have cb := ended17' ry (by decide)
  rw [show sEnded vy = true by decide +kernel] at cb
  have cc := chk13 ry (by decide)
  rw [show sChk vy = 0 by decide +kernel] at cc
  have cd := chk13 rz (by decide)
  rw [show sChk vz = 8 by decide +kernel] at cd
  have ce := same23 va vb false (same19 _ _ (by decide)) (by decide)
  have cf := same23 vy vy true (same19 _ _ (by decide)) (by decide)
  have cg := new24
  repeat' (first | with_reducible exact True.intro | with_reducible refine And.intro ?_ ?_ | with_reducible refine condP_dec (fun _ => ?_) (fun _ => ?_) | with_reducible refine condP_eq (fun _ => ?_) (fun _ => ?_) | with_reducible refine condP_ne (fun _ => ?_) (fun _ => ?_) | with_reducible refine condP_not (condP_dec (fun _ => ?_) (fun _ => ?_)) | with_reducible refine condP_not (condP_eq (fun _ => ?_) (fun _ => ?_)) | with_reducible refine condP_not (condP_intro (fun _ => ?_) (fun _ => ?_)) | with_reducible refine condP_intro (fun _ => ?_) (fun _ => ?_))
  all_goals first | exact c1 | exact c2 | exact c3 | exact c4 | exact c5 | exact c6 | exact c7 | exact c8 | exact c9 | exact ca | exact cb | exact cc | exact cd | exact ce | exact cf | exact cg | rfl | skip

end Go.Proofs.Ytfacpafkldmkcaa
