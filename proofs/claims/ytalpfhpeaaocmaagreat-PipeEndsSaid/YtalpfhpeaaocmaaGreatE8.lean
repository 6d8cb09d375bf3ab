/-
Part 8 of 9 of the proof of pipeEnds: the lemmas that it needs, of the texts S4, S5, S7, S8, S13, S14, S15, S16, S17, S18. No condition but those that each lemma names.
-/
import Derived.Test.YtalpfhpeaaocmaaGreatE7
import Derived.Test.YtalpfhpeaaocmaaGreatE1
import Derived.Test.YtalpfhpeaaocmaaGreatE2
import Derived.Test.YtalpfhpeaaocmaaGreatE3
import Derived.Test.YtalpfhpeaaocmaaGreatE4
import Derived.Test.YtalpfhpeaaocmaaGreatE5
import Derived.Test.YtalpfhpeaaocmaaGreatE6

set_option linter.unusedSimpArgs false
set_option linter.unusedVariables false
set_option maxRecDepth 100000
set_option maxHeartbeats 1000000
section
namespace Go.Proofs.YtalpfhpeaaocmaaGreat
open Sx Go.RowKit
theorem on17d (s : Pp) (x : C13.Sg) (h : pDead s = true) : FnOK Tryz.prog 17 ([.d (ppD s), .d (C13.sgD x)]) ([]) (.d (ppD s)) ([]) := by
 refine fnOK_wp (p := (FnOK Tryz.prog 26 [AV.d (ppD s)] [] (vB true) []) ∧ (rf (D.bool true)) ∧ (rf (AV.d (ppD s))) ∧ True) (h := {H := [(1, [(1, .call [] (.d (.bool true)) [])])], G := [(30, gA (.d (.bool false)))]}) (subs := []) (ws := []) (ρ := []) (by kernel_rfl) ?_
 have k := dead26 s
 rw [h] at k
 repeat' (with_reducible first|exact ⟨⟩|apply And.intro|(first|apply zA|apply zB|apply zC|apply zD|apply zE|apply zF|apply zG)<;>intro)
 all_goals first | exact k | rfl | skip
theorem on17f (s s1 s2 : Pp) (x : C13.Sg) (h : pDead s = false) (f0 : 0 ≤ x.f) (f1 : x.f < 256) (hf : C13.nFit s.sh x = false) : FnOK Tryz.prog 17 ([.d (ppD s), .d (C13.sgD x)]) ([]) (.d (ppD s)) ([]) := by
 refine fnOK_wp (p := (FnOK Tryz.prog 26 [AV.d (ppD s)] [] (vB false) []) ∧ (rf (D.bool false)) ∧ (FnOK Tryz.prog 30 [AV.d (C13.ndD s.sh), AV.d (C13.sgD x)] [] (vB false) []) ∧ (rf (AV.d (ppD s))) ∧ True) (h := {H := [(1, [(1, .call [] (.d (.bool false)) []), (6, .call [] (.d (.bool false)) [])])]}) (subs := []) (ws := []) (ρ := []) (by kernel_rfl) ?_
 have k := dead26 s
 have k2 := C13.fit15 s.sh x f0 f1
 rw [h] at k
 rw [hf] at k2
 repeat' (with_reducible first|exact ⟨⟩|apply And.intro|(first|apply zA|apply zB|apply zC|apply zD|apply zE|apply zF|apply zG)<;>intro)
 all_goals first | exact k | exact k2 | rfl | skip
theorem on17u (s s1 s2 : Pp) (x : C13.Sg) (h : pDead s = false) (f0 : 0 ≤ x.f) (f1 : x.f < 256) (hf : C13.nFit s.sh x = true) (hs : s1 = { s with he := s.no, sh := C13.nOn s.sh x }) (hu : pUp s1 = true) (k4 : FnOK Tryz.prog 32 [.ptr 0 0, .d (C13.sgD x)] [ppB s1] (.tup []) [ppB s2]) : FnOK Tryz.prog 17 ([.d (ppD s), .d (C13.sgD x)]) ([]) (.d (ppD s2)) ([]) := by
 refine fnOK_wp (p := (FnOK Tryz.prog 26 [AV.d (ppD s)] [] (vB false) []) ∧ (rf (D.bool false)) ∧ (FnOK Tryz.prog 30 [AV.d (C13.ndD s.sh), AV.d (C13.sgD x)] [] (vB true) []) ∧ (FnOK Tryz.prog 31 [AV.d (C13.ndD s.sh), AV.d (C13.sgD x)] [] (AV.d (.agg [D.int .u8 (C13.nOn s.sh x).g, D.int .i64 (C13.nOn s.sh x).p, D.int .i64 (C13.nOn s.sh x).e, D.int .u32 (C13.nOn s.sh x).m, D.int .u32 (C13.nOn s.sh x).h])) []) ∧ (FnOK Tryz.prog 12 [AV.d (.agg [D.int .u8 (C13.nOn s.sh x).g, D.int .i64 (C13.nOn s.sh x).p, D.int .i64 (C13.nOn s.sh x).e, D.int .u32 (C13.nOn s.sh x).m, D.int .u32 (C13.nOn s.sh x).h, D.int .i64 s.sq.b, D.str s.sq.d, D.int .i64 s.sq.n, D.sl (List.map C11.ckD s.sq.fl), D.sl (List.map C06.ivD s.sq.cm), D.int .i64 s.rq.b, D.str s.rq.r, D.sl (List.map C12.ptD s.rq.p), D.int .i64 s.rt.s, D.int .i64 s.rt.v, D.bool s.rt.k, D.int .i64 s.rt.h, D.int .i64 s.wn.w, D.int .i64 s.wn.t, D.int .i64 s.wn.p, D.int .i64 s.li, D.int .i64 s.no, D.int .i64 s.no, D.int .i64 s.nx, D.int .i64 s.pr, D.bool s.du])] [] (vB true) []) ∧ (FnOK Tryz.prog 32 [AV.ptr 0 0, AV.d (C13.sgD x)] [Ob.box [vU (C13.nOn s.sh x).g, vI (C13.nOn s.sh x).p, vI (C13.nOn s.sh x).e, vW (C13.nOn s.sh x).m, vW (C13.nOn s.sh x).h, vI s.sq.b, vS s.sq.d, vI s.sq.n, vL (List.map C11.ckD s.sq.fl), vL (List.map C06.ivD s.sq.cm), vI s.rq.b, vS s.rq.r, vL (List.map C12.ptD s.rq.p), vI s.rt.s, vI s.rt.v, vB s.rt.k, vI s.rt.h, vI s.wn.w, vI s.wn.t, vI s.wn.p, vI s.li, vI s.no, vI s.no, vI s.nx, vI s.pr, vB s.du]] (AV.tup []) [ppB s2]) ∧ (rf (AV.d (ppD s2))) ∧ True) (h := {H := [(1, [(1, .call [] (.d (.bool false)) []), (6, .call [] (.d (.bool true)) [])]), (5, [(7, .call [] (.d (C13.ndD (C13.nOn s.sh x))) [])]), (6, [(4, .call [] (.d (.bool true)) [])]), (7, [(2, .call [1144] (.tup []) [ppB s2])])]}) (subs := []) (ws := []) (ρ := []) (by kernel_rfl) ?_
 have k := dead26 s
 have k2 := C13.fit15 s.sh x f0 f1
 rw [h] at k
 rw [hf] at k2
 have k3 := alive12 s1
 rw [hu] at k3
 subst hs
 repeat' (with_reducible first|exact ⟨⟩|apply And.intro|(first|apply zA|apply zB|apply zC|apply zD|apply zE|apply zF|apply zG)<;>intro)
 all_goals first | exact k | exact k2 | exact k3 | exact k4 | exact C13.on9 s.sh x f0 f1 | rfl | skip
theorem on17n (s s1 s2 : Pp) (x : C13.Sg) (h : pDead s = false) (f0 : 0 ≤ x.f) (f1 : x.f < 256) (hf : C13.nFit s.sh x = true) (hs : s1 = { s with he := s.no, sh := C13.nOn s.sh x }) (hu : pUp s1 = false) : FnOK Tryz.prog 17 ([.d (ppD s), .d (C13.sgD x)]) ([]) (.d (ppD s1)) ([]) := by
 refine fnOK_wp (p := (FnOK Tryz.prog 26 [AV.d (ppD s)] [] (vB false) []) ∧ (rf (D.bool false)) ∧ (FnOK Tryz.prog 30 [AV.d (C13.ndD s.sh), AV.d (C13.sgD x)] [] (vB true) []) ∧ (FnOK Tryz.prog 31 [AV.d (C13.ndD s.sh), AV.d (C13.sgD x)] [] (AV.d (.agg [D.int .u8 (C13.nOn s.sh x).g, D.int .i64 (C13.nOn s.sh x).p, D.int .i64 (C13.nOn s.sh x).e, D.int .u32 (C13.nOn s.sh x).m, D.int .u32 (C13.nOn s.sh x).h])) []) ∧ (FnOK Tryz.prog 12 [AV.d (.agg [D.int .u8 (C13.nOn s.sh x).g, D.int .i64 (C13.nOn s.sh x).p, D.int .i64 (C13.nOn s.sh x).e, D.int .u32 (C13.nOn s.sh x).m, D.int .u32 (C13.nOn s.sh x).h, D.int .i64 s.sq.b, D.str s.sq.d, D.int .i64 s.sq.n, D.sl (List.map C11.ckD s.sq.fl), D.sl (List.map C06.ivD s.sq.cm), D.int .i64 s.rq.b, D.str s.rq.r, D.sl (List.map C12.ptD s.rq.p), D.int .i64 s.rt.s, D.int .i64 s.rt.v, D.bool s.rt.k, D.int .i64 s.rt.h, D.int .i64 s.wn.w, D.int .i64 s.wn.t, D.int .i64 s.wn.p, D.int .i64 s.li, D.int .i64 s.no, D.int .i64 s.no, D.int .i64 s.nx, D.int .i64 s.pr, D.bool s.du])] [] (vB false) []) ∧ (AV.d (.agg [D.int .u8 (C13.nOn s.sh x).g, D.int .i64 (C13.nOn s.sh x).p, D.int .i64 (C13.nOn s.sh x).e, D.int .u32 (C13.nOn s.sh x).m, D.int .u32 (C13.nOn s.sh x).h, D.int .i64 s.sq.b, D.str s.sq.d, D.int .i64 s.sq.n, D.sl (List.map C11.ckD s.sq.fl), D.sl (List.map C06.ivD s.sq.cm), D.int .i64 s.rq.b, D.str s.rq.r, D.sl (List.map C12.ptD s.rq.p), D.int .i64 s.rt.s, D.int .i64 s.rt.v, D.bool s.rt.k, D.int .i64 s.rt.h, D.int .i64 s.wn.w, D.int .i64 s.wn.t, D.int .i64 s.wn.p, D.int .i64 s.li, D.int .i64 s.no, D.int .i64 s.no, D.int .i64 s.nx, D.int .i64 s.pr, D.bool s.du]) = AV.d (ppD s1)) ∧ True) (h := {H := [(1, [(1, .call [] (.d (.bool false)) []), (6, .call [] (.d (.bool true)) [])]), (5, [(7, .call [] (.d (C13.ndD (C13.nOn s.sh x))) [])]), (6, [(4, .call [] (.d (.bool false)) [])])]}) (subs := []) (ws := []) (ρ := []) (by kernel_rfl) ?_
 have k := dead26 s
 have k2 := C13.fit15 s.sh x f0 f1
 rw [h] at k
 rw [hf] at k2
 have k3 := alive12 s1
 rw [hu] at k3
 subst hs
 repeat' (with_reducible first|exact ⟨⟩|apply And.intro|(first|apply zA|apply zB|apply zC|apply zD|apply zE|apply zF|apply zG)<;>intro)
 all_goals first | exact k | exact k2 | exact k3 | exact C13.on9 s.sh x f0 f1 | rfl | skip
theorem tick24a (s : Pp) (now : Int) (h : now ≤ s.no ∨ now > 1099511627776) : FnOK Tryz.prog 24 ([.d (ppD s), .d (.int .i64 now)]) ([]) (.d (ppD s)) ([]) := by
 refine fnOK_wp (p := condP (decide (now ≤ s.no)) ((D.bool (decide (now ≤ s.no)) = D.bool true) ∧ (rf (D.bool true)) ∧ (rf (AV.d (ppD s))) ∧ True) ((D.bool (decide (now ≤ s.no)) = D.bool false) ∧ (D.bool (decide (now > (1099511627776 : Int))) = D.bool true) ∧ (rf (AV.d (ppD s))) ∧ True)) (h := {H := [(1, [(7, .val (.bool true))])]}) (subs := []) (ws := []) (ρ := []) (by kernel_rfl) ?_
 repeat' (with_reducible first|exact ⟨⟩|apply And.intro|(first|apply zA|apply zB|apply zC|apply zD|apply zE|apply zF|apply zG)<;>intro)
 all_goals first | rfl | (exfalso; omega) | exact dyes (by omega) | (refine congrArg D.bool ?_; simp; omega) | (refine congrArg D.bool ?_; simp [*]; done) | skip
theorem tick24b (s : Pp) (now : Int) (h : ¬(now ≤ s.no ∨ now > 1099511627776)) (d : Bool) (hd : pDead s = d) (h2 : d = true ∨ s.sh.g = 0) (k2 k3 k4 k5 : True) : FnOK Tryz.prog 24 ([.d (ppD s), .d (.int .i64 now)]) ([]) (.d (ppD { s with no := now })) ([]) := by
 refine fnOK_wp (p := (D.bool (decide (now ≤ s.no)) = D.bool false) ∧ (D.bool (decide (now > (1099511627776 : Int))) = D.bool false) ∧ (condP (d) ((FnOK Tryz.prog 26 [AV.d (ppD { s with no := now })] [] (vB d) []) ∧ (D.bool d = D.bool true) ∧ (rf (D.bool true)) ∧ (rf (AV.d (ppD { s with no := now }))) ∧ True) ((FnOK Tryz.prog 26 [AV.d (ppD { s with no := now })] [] (vB d) []) ∧ (D.bool d = D.bool false) ∧ (D.bool (s.sh.g == (0 : Int)) = D.bool true) ∧ (rf (AV.d (ppD { s with no := now }))) ∧ True))) (h := {H := [(1, [(4, .val (.bool false)), (7, .val (.bool false))]), (4, [(1, .call [] (.d (.bool d)) []), (7, .val (.bool true))])]}) (subs := []) (ws := []) (ρ := []) (by kernel_rfl) ?_
 have k1 := dead26 { s with no := now }
 rw [show pDead { s with no := now } = d from hd] at k1
 repeat' (with_reducible first|exact ⟨⟩|apply And.intro|(first|apply zA|apply zB|apply zC|apply zD|apply zE|apply zF|apply zG)<;>intro)
 all_goals first | exact k1 | exact k2 | exact k3 | exact k4 | exact k5 | rfl | (exfalso; omega) | (exfalso; simp_all; done) | exact dyes (by omega) | exact dno (by omega) | (refine congrArg D.bool (beq_iff_eq.2 ?_); simp_all; done) | exact dno (fun g => h4 ⟨by assumption, g⟩) | (refine congrArg D.bool ?_; simp [*]; done) | (refine congrArg D.bool ?_; simp; omega) | skip
theorem tick24c (s : Pp) (now : Int) (h : ¬(now ≤ s.no ∨ now > 1099511627776)) (hd : pDead s = false) (h2 : s.sh.g ≠ 0) (h3 : IntKind.i64.wrap (now - s.he) ≥ 200) (k3 k4 k5 : True) : FnOK Tryz.prog 24 ([.d (ppD s), .d (.int .i64 now)]) ([]) (.d (ppD (pKill { s with no := now }))) ([]) := by
 refine fnOK_wp (p := (D.bool (decide (now ≤ s.no)) = D.bool false) ∧ (D.bool (decide (now > (1099511627776 : Int))) = D.bool false) ∧ (FnOK Tryz.prog 26 [AV.d (ppD { s with no := now })] [] (vB false) []) ∧ (rf (D.bool false)) ∧ (D.bool (s.sh.g == (0 : Int)) = D.bool false) ∧ (D.bool (decide (IntKind.i64.wrap (now - s.he) ≥ (200 : Int))) = D.bool true) ∧ (FnOK Tryz.prog 14 [AV.d (ppD { s with no := now })] [] (AV.d (.agg [D.int .u8 (pKill (Pp.mk s.sh s.sq s.rq s.rt s.wn s.li now s.he s.nx s.pr s.du)).sh.g, D.int .i64 (pKill (Pp.mk s.sh s.sq s.rq s.rt s.wn s.li now s.he s.nx s.pr s.du)).sh.p, D.int .i64 (pKill (Pp.mk s.sh s.sq s.rq s.rt s.wn s.li now s.he s.nx s.pr s.du)).sh.e, D.int .u32 (pKill (Pp.mk s.sh s.sq s.rq s.rt s.wn s.li now s.he s.nx s.pr s.du)).sh.m, D.int .u32 (pKill (Pp.mk s.sh s.sq s.rq s.rt s.wn s.li now s.he s.nx s.pr s.du)).sh.h, D.int .i64 (pKill (Pp.mk s.sh s.sq s.rq s.rt s.wn s.li now s.he s.nx s.pr s.du)).sq.b, D.str (pKill (Pp.mk s.sh s.sq s.rq s.rt s.wn s.li now s.he s.nx s.pr s.du)).sq.d, D.int .i64 (pKill (Pp.mk s.sh s.sq s.rq s.rt s.wn s.li now s.he s.nx s.pr s.du)).sq.n, D.sl (List.map C11.ckD (pKill (Pp.mk s.sh s.sq s.rq s.rt s.wn s.li now s.he s.nx s.pr s.du)).sq.fl), D.sl (List.map C06.ivD (pKill (Pp.mk s.sh s.sq s.rq s.rt s.wn s.li now s.he s.nx s.pr s.du)).sq.cm), D.int .i64 (pKill (Pp.mk s.sh s.sq s.rq s.rt s.wn s.li now s.he s.nx s.pr s.du)).rq.b, D.str (pKill (Pp.mk s.sh s.sq s.rq s.rt s.wn s.li now s.he s.nx s.pr s.du)).rq.r, D.sl (List.map C12.ptD (pKill (Pp.mk s.sh s.sq s.rq s.rt s.wn s.li now s.he s.nx s.pr s.du)).rq.p), D.int .i64 (pKill (Pp.mk s.sh s.sq s.rq s.rt s.wn s.li now s.he s.nx s.pr s.du)).rt.s, D.int .i64 (pKill (Pp.mk s.sh s.sq s.rq s.rt s.wn s.li now s.he s.nx s.pr s.du)).rt.v, D.bool (pKill (Pp.mk s.sh s.sq s.rq s.rt s.wn s.li now s.he s.nx s.pr s.du)).rt.k, D.int .i64 (pKill (Pp.mk s.sh s.sq s.rq s.rt s.wn s.li now s.he s.nx s.pr s.du)).rt.h, D.int .i64 (pKill (Pp.mk s.sh s.sq s.rq s.rt s.wn s.li now s.he s.nx s.pr s.du)).wn.w, D.int .i64 (pKill (Pp.mk s.sh s.sq s.rq s.rt s.wn s.li now s.he s.nx s.pr s.du)).wn.t, D.int .i64 (pKill (Pp.mk s.sh s.sq s.rq s.rt s.wn s.li now s.he s.nx s.pr s.du)).wn.p, D.int .i64 (pKill (Pp.mk s.sh s.sq s.rq s.rt s.wn s.li now s.he s.nx s.pr s.du)).li, D.int .i64 (pKill (Pp.mk s.sh s.sq s.rq s.rt s.wn s.li now s.he s.nx s.pr s.du)).no, D.int .i64 (pKill (Pp.mk s.sh s.sq s.rq s.rt s.wn s.li now s.he s.nx s.pr s.du)).he, D.int .i64 (pKill (Pp.mk s.sh s.sq s.rq s.rt s.wn s.li now s.he s.nx s.pr s.du)).nx, D.int .i64 (pKill (Pp.mk s.sh s.sq s.rq s.rt s.wn s.li now s.he s.nx s.pr s.du)).pr, D.bool (pKill (Pp.mk s.sh s.sq s.rq s.rt s.wn s.li now s.he s.nx s.pr s.du)).du])) []) ∧ (rf (AV.d (.agg [D.int .u8 (pKill (Pp.mk s.sh s.sq s.rq s.rt s.wn s.li now s.he s.nx s.pr s.du)).sh.g, D.int .i64 (pKill (Pp.mk s.sh s.sq s.rq s.rt s.wn s.li now s.he s.nx s.pr s.du)).sh.p, D.int .i64 (pKill (Pp.mk s.sh s.sq s.rq s.rt s.wn s.li now s.he s.nx s.pr s.du)).sh.e, D.int .u32 (pKill (Pp.mk s.sh s.sq s.rq s.rt s.wn s.li now s.he s.nx s.pr s.du)).sh.m, D.int .u32 (pKill (Pp.mk s.sh s.sq s.rq s.rt s.wn s.li now s.he s.nx s.pr s.du)).sh.h, D.int .i64 (pKill (Pp.mk s.sh s.sq s.rq s.rt s.wn s.li now s.he s.nx s.pr s.du)).sq.b, D.str (pKill (Pp.mk s.sh s.sq s.rq s.rt s.wn s.li now s.he s.nx s.pr s.du)).sq.d, D.int .i64 (pKill (Pp.mk s.sh s.sq s.rq s.rt s.wn s.li now s.he s.nx s.pr s.du)).sq.n, D.sl (List.map C11.ckD (pKill (Pp.mk s.sh s.sq s.rq s.rt s.wn s.li now s.he s.nx s.pr s.du)).sq.fl), D.sl (List.map C06.ivD (pKill (Pp.mk s.sh s.sq s.rq s.rt s.wn s.li now s.he s.nx s.pr s.du)).sq.cm), D.int .i64 (pKill (Pp.mk s.sh s.sq s.rq s.rt s.wn s.li now s.he s.nx s.pr s.du)).rq.b, D.str (pKill (Pp.mk s.sh s.sq s.rq s.rt s.wn s.li now s.he s.nx s.pr s.du)).rq.r, D.sl (List.map C12.ptD (pKill (Pp.mk s.sh s.sq s.rq s.rt s.wn s.li now s.he s.nx s.pr s.du)).rq.p), D.int .i64 (pKill (Pp.mk s.sh s.sq s.rq s.rt s.wn s.li now s.he s.nx s.pr s.du)).rt.s, D.int .i64 (pKill (Pp.mk s.sh s.sq s.rq s.rt s.wn s.li now s.he s.nx s.pr s.du)).rt.v, D.bool (pKill (Pp.mk s.sh s.sq s.rq s.rt s.wn s.li now s.he s.nx s.pr s.du)).rt.k, D.int .i64 (pKill (Pp.mk s.sh s.sq s.rq s.rt s.wn s.li now s.he s.nx s.pr s.du)).rt.h, D.int .i64 (pKill (Pp.mk s.sh s.sq s.rq s.rt s.wn s.li now s.he s.nx s.pr s.du)).wn.w, D.int .i64 (pKill (Pp.mk s.sh s.sq s.rq s.rt s.wn s.li now s.he s.nx s.pr s.du)).wn.t, D.int .i64 (pKill (Pp.mk s.sh s.sq s.rq s.rt s.wn s.li now s.he s.nx s.pr s.du)).wn.p, D.int .i64 (pKill (Pp.mk s.sh s.sq s.rq s.rt s.wn s.li now s.he s.nx s.pr s.du)).li, D.int .i64 (pKill (Pp.mk s.sh s.sq s.rq s.rt s.wn s.li now s.he s.nx s.pr s.du)).no, D.int .i64 (pKill (Pp.mk s.sh s.sq s.rq s.rt s.wn s.li now s.he s.nx s.pr s.du)).he, D.int .i64 (pKill (Pp.mk s.sh s.sq s.rq s.rt s.wn s.li now s.he s.nx s.pr s.du)).nx, D.int .i64 (pKill (Pp.mk s.sh s.sq s.rq s.rt s.wn s.li now s.he s.nx s.pr s.du)).pr, D.bool (pKill (Pp.mk s.sh s.sq s.rq s.rt s.wn s.li now s.he s.nx s.pr s.du)).du]))) ∧ True) (h := {H := [(1, [(4, .val (.bool false)), (7, .val (.bool false))]), (4, [(1, .call [] (.d (.bool false)) []), (7, .val (.bool false))]), (6, [(4, .val (.bool true))]), (7, [(1, .call [] (.d (ppD (pKill { s with no := now }))) [])])]}) (subs := []) (ws := []) (ρ := []) (by kernel_rfl) ?_
 have k1 := dead26 { s with no := now }
 rw [show pDead { s with no := now } = false from hd] at k1
 have k2 := kill14 { s with no := now }
 repeat' (with_reducible first|exact ⟨⟩|apply And.intro|(first|apply zA|apply zB|apply zC|apply zD|apply zE|apply zF|apply zG)<;>intro)
 all_goals first | exact k1 | exact k2 | exact k3 | exact k4 | exact k5 | rfl | (exfalso; omega) | (exfalso; simp_all; done) | exact dyes (by omega) | exact dno (by omega) | (refine congrArg D.bool (beq_iff_eq.2 ?_); simp_all; done) | exact dno (fun g => h4 ⟨by assumption, g⟩) | (refine congrArg D.bool ?_; simp [*]; done) | (refine congrArg D.bool ?_; simp; omega) | skip
theorem tick24e (s : Pp) (now : Int) (h : ¬(now ≤ s.no ∨ now > 1099511627776)) (hd : pDead s = false) (h2 : s.sh.g ≠ 0) (h3 : ¬IntKind.i64.wrap (now - s.he) ≥ 200) (o w : Int) (is : Bool) (h4 : ¬(is = true ∧ IntKind.i64.wrap (now - o) ≥ w)) (k2 : FnOK Tryz.prog 45 [.d (C11.sqD s.sq)] [] (.tup [.d (.int .i64 o), .d (.bool is)]) []) (k3 : FnOK Tryz.prog 46 [.d (C08.rD s.rt)] [] (.d (.int .i64 w)) []) (k4 k5 : True) : FnOK Tryz.prog 24 ([.d (ppD s), .d (.int .i64 now)]) ([]) (.d (ppD { s with no := now })) ([]) := by
 refine fnOK_wp (p := (D.bool (decide (now ≤ s.no)) = D.bool false) ∧ (D.bool (decide (now > (1099511627776 : Int))) = D.bool false) ∧ (FnOK Tryz.prog 26 [AV.d (ppD { s with no := now })] [] (vB false) []) ∧ (rf (D.bool false)) ∧ (D.bool (s.sh.g == (0 : Int)) = D.bool false) ∧ (D.bool (decide (IntKind.i64.wrap (now - s.he) ≥ (200 : Int))) = D.bool false) ∧ (FnOK Tryz.prog 45 [AV.d (C11.sqD s.sq)] [] (AV.tup [vI o, vB is]) []) ∧ (condP (is) ((D.bool is = D.bool true) ∧ (FnOK Tryz.prog 46 [AV.d (C08.rD s.rt)] [] (vI w) []) ∧ (D.bool (decide (IntKind.i64.wrap (now - o) ≥ w)) = D.bool false) ∧ (rf (AV.d (ppD { s with no := now }))) ∧ True) ((D.bool is = D.bool false) ∧ (rf (D.bool false)) ∧ (rf (AV.d (ppD { s with no := now }))) ∧ True))) (h := {H := [(1, [(4, .val (.bool false)), (7, .val (.bool false))]), (4, [(1, .call [] (.d (.bool false)) []), (7, .val (.bool false))]), (6, [(4, .val (.bool false))]), (9, [(9, .val (.bool false))])], G := [(45, gA (.tup [.d (.int .i64 o), .d (.bool is)])), (46, gA (.d (.int .i64 w)))]}) (subs := []) (ws := []) (ρ := []) (by kernel_rfl) ?_
 have k1 := dead26 { s with no := now }
 rw [show pDead { s with no := now } = false from hd] at k1
 repeat' (with_reducible first|exact ⟨⟩|apply And.intro|(first|apply zA|apply zB|apply zC|apply zD|apply zE|apply zF|apply zG)<;>intro)
 all_goals first | exact k1 | exact k2 | exact k3 | exact k4 | exact k5 | rfl | (exfalso; omega) | (exfalso; simp_all; done) | exact dyes (by omega) | exact dno (by omega) | (refine congrArg D.bool (beq_iff_eq.2 ?_); simp_all; done) | exact dno (fun g => h4 ⟨by assumption, g⟩) | (refine congrArg D.bool ?_; simp [*]; done) | (refine congrArg D.bool ?_; simp; omega) | skip
theorem tick24d (s : Pp) (now : Int) (h : ¬(now ≤ s.no ∨ now > 1099511627776)) (hd : pDead s = false) (h2 : s.sh.g ≠ 0) (h3 : ¬IntKind.i64.wrap (now - s.he) ≥ 200) (o w : Int) (h4 : IntKind.i64.wrap (now - o) ≥ w) (q : C11.Sq) (is : Bool) (k2 : FnOK Tryz.prog 45 [.d (C11.sqD s.sq)] [] (.tup [.d (.int .i64 o), .d (.bool true)]) []) (k3 : FnOK Tryz.prog 46 [.d (C08.rD s.rt)] [] (.d (.int .i64 w)) []) (k4 : FnOK Tryz.prog 47 [.d (C11.sqD s.sq)] [] (.tup [.d (C11.sqD q), .d (.bool is)]) []) : FnOK Tryz.prog 24 ([.d (ppD s), .d (.int .i64 now)]) ([]) (.d (ppD { s with no := now, sq := q, rt := C08.rExpire s.rt, wn := C10.aExpired s.wn })) ([]) := by
 refine fnOK_wp (p := (D.bool (decide (now ≤ s.no)) = D.bool false) ∧ (D.bool (decide (now > (1099511627776 : Int))) = D.bool false) ∧ (FnOK Tryz.prog 26 [AV.d (ppD { s with no := now })] [] (vB false) []) ∧ (rf (D.bool false)) ∧ (D.bool (s.sh.g == (0 : Int)) = D.bool false) ∧ (D.bool (decide (IntKind.i64.wrap (now - s.he) ≥ (200 : Int))) = D.bool false) ∧ (FnOK Tryz.prog 45 [AV.d (C11.sqD s.sq)] [] (AV.tup [vI o, vB true]) []) ∧ (rf (D.bool true)) ∧ (FnOK Tryz.prog 46 [AV.d (C08.rD s.rt)] [] (vI w) []) ∧ (D.bool (decide (IntKind.i64.wrap (now - o) ≥ w)) = D.bool true) ∧ (FnOK Tryz.prog 47 [AV.d (C11.sqD s.sq)] [] (AV.tup [AV.d (C11.sqD q), vB is]) []) ∧ (FnOK Tryz.prog 48 [AV.d (C08.rD s.rt)] [] (AV.d (.agg [D.int .i64 (C08.rExpire s.rt).s, D.int .i64 (C08.rExpire s.rt).v, D.bool (C08.rExpire s.rt).k, D.int .i64 (C08.rExpire s.rt).h])) []) ∧ (FnOK Tryz.prog 49 [AV.d (C10.aD s.wn)] [] (AV.d (.agg [D.int .i64 (C10.aExpired s.wn).w, D.int .i64 (C10.aExpired s.wn).t, D.int .i64 (C10.aExpired s.wn).p])) []) ∧ (rf (AV.d (.agg [D.int .u8 s.sh.g, D.int .i64 s.sh.p, D.int .i64 s.sh.e, D.int .u32 s.sh.m, D.int .u32 s.sh.h, D.int .i64 q.b, D.str q.d, D.int .i64 q.n, D.sl (List.map C11.ckD q.fl), D.sl (List.map C06.ivD q.cm), D.int .i64 s.rq.b, D.str s.rq.r, D.sl (List.map C12.ptD s.rq.p), D.int .i64 (C08.rExpire s.rt).s, D.int .i64 (C08.rExpire s.rt).v, D.bool (C08.rExpire s.rt).k, D.int .i64 (C08.rExpire s.rt).h, D.int .i64 (C10.aExpired s.wn).w, D.int .i64 (C10.aExpired s.wn).t, D.int .i64 (C10.aExpired s.wn).p, D.int .i64 s.li, D.int .i64 now, D.int .i64 s.he, D.int .i64 s.nx, D.int .i64 s.pr, D.bool s.du]))) ∧ True) (h := {H := [(1, [(4, .val (.bool false)), (7, .val (.bool false))]), (4, [(1, .call [] (.d (.bool false)) []), (7, .val (.bool false))]), (6, [(4, .val (.bool false))]), (9, [(8, .val (.bool true))])], G := [(45, gA (.tup [.d (.int .i64 o), .d (.bool true)])), (46, gA (.d (.int .i64 w))), (47, gA (.tup [.d (C11.sqD q), .d (.bool is)])), (48, gA (.d (C08.rD (C08.rExpire s.rt)))), (49, gA (.d (C10.aD (C10.aExpired s.wn))))]}) (subs := []) (ws := []) (ρ := []) (by kernel_rfl) ?_
 have k1 := dead26 { s with no := now }
 rw [show pDead { s with no := now } = false from hd] at k1
 have k5 := C08.expire12 s.rt
 have k6 := C10.exp19 s.wn
 repeat' (with_reducible first|exact ⟨⟩|apply And.intro|(first|apply zA|apply zB|apply zC|apply zD|apply zE|apply zF|apply zG)<;>intro)
 all_goals first | exact k1 | exact k2 | exact k3 | exact k4 | exact k5 | exact k6 | rfl | (exfalso; omega) | (exfalso; simp_all; done) | exact dyes (by omega) | exact dno (by omega) | (refine congrArg D.bool ?_; simp [*]; done) | skip
theorem tick24 (s : Pp) (ok : C11.SqOk s.sq) (now : Int) : FnOK Tryz.prog 24 [.d (ppD s), .d (.int .i64 now)] [] (.d (ppD (pTick s now))) [] := by
 unfold pTick
 by_cases h : now ≤ s.no ∨ now > 1099511627776
 ·rw [if_pos h]; exact tick24a s now h
 ·rw [if_neg h]
  by_cases h2 : s.sh.g = 4 ∨ s.sh.g = 0
  ·rw [if_pos h2]
   exact tick24b s now h _ rfl (h2.elim (fun g => .inl (beq_iff_eq.2 g)) .inr) trivial trivial trivial trivial
  ·rw [if_neg h2]
   have hd : pDead s = false := beq_eq_false_iff_ne.2 fun g => h2 (.inl g)
   have h0 : s.sh.g ≠ 0 := fun g => h2 (.inr g)
   by_cases h3 : IntKind.i64.wrap (now - s.he) ≥ 200
   ·rw [if_pos h3]; exact tick24c s now h hd h0 h3 trivial trivial trivial
   ·rw [if_neg h3]
    have hf := ok.fl
    have k2 := C11.oldest16 s.sq (by omega)
    have k3 := C08.wait10 s.rt
    by_cases h4 : (C11.rOldest s.sq).2 = true ∧ IntKind.i64.wrap (now - (C11.rOldest s.sq).1) ≥ C08.rWait s.rt
    ·rw [if_pos h4]
     rw [h4.1] at k2
     exact tick24d s now h hd h0 h3 _ _ h4.2 _ _ k2 k3 (C11.expire14 s.sq ok)
    ·rw [if_neg h4]
     exact tick24e s now h hd h0 h3 _ _ _ h4 k2 k3 trivial trivial
theorem greet28n (s : Pp) (h : C13.nSays s.sh = false ∨ s.no < s.nx) (b : Bool) (hb : C13.nSays s.sh = b) : FnOK Tryz.prog 28 ([.ptr 0 0]) ([ppB s]) (.tup [.d (C13.sgD C13.sgZ), .d (.bool false)]) ([ppB s]) := by
 refine fnOK_wp (p := (FnOK Tryz.prog 53 [AV.d (C13.ndD s.sh)] [] (AV.tup [AV.d (.agg [D.int .u8 (C13.nOut s.sh).f, D.int .i64 (C13.nOut s.sh).p, D.int .i64 (C13.nOut s.sh).e, D.int .u32 (C13.nOut s.sh).q, D.int .u32 (C13.nOut s.sh).a, D.int .i64 (C13.nOut s.sh).w, D.sl (C13.nOut s.sh).k, D.str (C13.nOut s.sh).t]), vB b]) []) ∧ (condP (!b) (((D.bool !b) = D.bool true) ∧ (rf (D.bool true)) ∧ (rf (AV.tup [AV.d (.agg [D.int .u8 0, D.int .i64 0, D.int .i64 0, D.int .u32 0, D.int .u32 0, D.int .i64 0, D.sl [], D.str []]), vB false])) ∧ (rf (ppB s)) ∧ True) (((D.bool !b) = D.bool false) ∧ (D.bool (decide (s.no < s.nx)) = D.bool true) ∧ (rf (AV.tup [AV.d (.agg [D.int .u8 0, D.int .i64 0, D.int .i64 0, D.int .u32 0, D.int .u32 0, D.int .i64 0, D.sl [], D.str []]), vB false])) ∧ (rf (ppB s)) ∧ True))) (h := {H := [(1, [(5, .call [] (.tup [.d (C13.sgD (C13.nOut s.sh)), .d (.bool b)]) [])]), (2, [(14, .val (.bool true))])]}) (subs := []) (ws := []) (ρ := []) (by kernel_rfl) ?_
 have k := C13.out13 s.sh
 rw [hb] at k
 rw [hb] at h
 repeat' (with_reducible first|exact ⟨⟩|apply And.intro|(first|apply zA|apply zB|apply zC|apply zD|apply zE|apply zF|apply zG)<;>intro)
 all_goals first | exact k | rfl | (refine congrArg D.bool ?_; simp_all; done) | (exfalso; simp_all; omega) | skip
theorem greet28y (s : Pp) (h : C13.nSays s.sh = true) (h2 : ¬s.no < s.nx) (w : Int) (hw : C08.rWait s.rt = w) : FnOK Tryz.prog 28 ([.ptr 0 0]) ([ppB s]) (.tup [.d (C13.sgD (C13.nOut s.sh)), .d (.bool true)]) ([ppB { s with nx := IntKind.i64.wrap (s.no + w), rt := C08.rExpire s.rt }]) := by
 refine fnOK_wp (p := (FnOK Tryz.prog 53 [AV.d (C13.ndD s.sh)] [] (AV.tup [AV.d (.agg [D.int .u8 (C13.nOut s.sh).f, D.int .i64 (C13.nOut s.sh).p, D.int .i64 (C13.nOut s.sh).e, D.int .u32 (C13.nOut s.sh).q, D.int .u32 (C13.nOut s.sh).a, D.int .i64 (C13.nOut s.sh).w, D.sl (C13.nOut s.sh).k, D.str (C13.nOut s.sh).t]), vB true]) []) ∧ (rf (D.bool false)) ∧ (D.bool (decide (s.no < s.nx)) = D.bool false) ∧ (FnOK Tryz.prog 46 [AV.d (C08.rD s.rt)] [] (vI w) []) ∧ (FnOK Tryz.prog 48 [AV.d (C08.rD s.rt)] [] (AV.d (.agg [D.int .i64 (C08.rExpire s.rt).s, D.int .i64 (C08.rExpire s.rt).v, D.bool (C08.rExpire s.rt).k, D.int .i64 (C08.rExpire s.rt).h])) []) ∧ (rf (AV.tup [AV.d (.agg [D.int .u8 (C13.nOut s.sh).f, D.int .i64 (C13.nOut s.sh).p, D.int .i64 (C13.nOut s.sh).e, D.int .u32 (C13.nOut s.sh).q, D.int .u32 (C13.nOut s.sh).a, D.int .i64 (C13.nOut s.sh).w, D.sl (C13.nOut s.sh).k, D.str (C13.nOut s.sh).t]), vB true])) ∧ (rf (Ob.box [vU s.sh.g, vI s.sh.p, vI s.sh.e, vW s.sh.m, vW s.sh.h, vI s.sq.b, vS s.sq.d, vI s.sq.n, vL (List.map C11.ckD s.sq.fl), vL (List.map C06.ivD s.sq.cm), vI s.rq.b, vS s.rq.r, vL (List.map C12.ptD s.rq.p), vI (C08.rExpire s.rt).s, vI (C08.rExpire s.rt).v, vB (C08.rExpire s.rt).k, vI (C08.rExpire s.rt).h, vI s.wn.w, vI s.wn.t, vI s.wn.p, vI s.li, vI s.no, vI s.he, vI (IntKind.i64.wrap (s.no + w)), vI s.pr, vB s.du])) ∧ True) (h := {H := [(1, [(5, .call [] (.tup [.d (C13.sgD (C13.nOut s.sh)), .d (.bool true)]) [])]), (2, [(13, .val (.bool false))])], G := [(46, gA (.d (.int .i64 w))), (48, gA (.d (C08.rD (C08.rExpire s.rt))))]}) (subs := []) (ws := []) (ρ := []) (by kernel_rfl) ?_
 have k := C13.out13 s.sh
 have k2 := C08.wait10 s.rt
 have k3 := C08.expire12 s.rt
 rw [h] at k
 rw [hw] at k2
 repeat' (with_reducible first|exact ⟨⟩|apply And.intro|(first|apply zA|apply zB|apply zC|apply zD|apply zE|apply zF|apply zG)<;>intro)
 all_goals first | exact k | exact k2 | exact k3 | rfl | exact dno h2 | skip
theorem greet28 (s : Pp) : FnOK Tryz.prog 28 [.ptr 0 0] [ppB s] (.tup [.d (C13.sgD (pGreet s).2.1), .d (.bool (pGreet s).2.2)]) [ppB (pGreet s).1] := by
 unfold pGreet
 by_cases h : C13.nSays s.sh = false ∨ s.no < s.nx
 ·rw [if_pos h]; exact greet28n s h _ rfl
 ·rw [if_neg h]; exact greet28y s (by cases g : C13.nSays s.sh; exact absurd (.inl g) h; rfl) (fun g => h (.inr g)) _ rfl
theorem speak29a (s : Pp) (q : C11.Sq) (c : C11.Ck) (t : List UInt8) (sg : C13.Sg) (k1 : FnOK Tryz.prog 54 [.d (C11.sqD s.sq), .d (.int .i64 s.no), .d (.int .i64 s.wn.w), .d (.int .i64 s.li)] [] (.tup [.d (C11.sqD q), .d (C11.ckD c), .d (.str t)]) []) (ht : t ≠ []) (k2 : FnOK Tryz.prog 55 [.ptr 0 0, .d (.int .i64 c.f), .d (.str t)] [ppB { s with sq := q }] (.d (C13.sgD sg)) [ppB { s with sq := q, du := false }]) : FnOK Tryz.prog 29 ([.ptr 0 0]) ([ppB s]) (.tup [.d (C13.sgD sg), .d (.bool true)]) ([ppB { s with sq := q, du := false }]) := by
 refine fnOK_wp (p := (FnOK Tryz.prog 54 [AV.d (C11.sqD s.sq), vI s.no, vI s.wn.w, vI s.li] [] (AV.tup [AV.d (C11.sqD q), AV.d (C11.ckD c), vS t]) []) ∧ ((D.bool !t == []) = D.bool true) ∧ (FnOK Tryz.prog 55 [AV.ptr 0 0, vI c.f, vS t] [ppB { s with sq := q }] (AV.d (C13.sgD sg)) [ppB { s with sq := q, du := false }]) ∧ (rf (AV.tup [AV.d (C13.sgD sg), vB true])) ∧ (rf (ppB { s with sq := q, du := false })) ∧ True) (h := {H := [(2, [(1, .val (.bool true))]), (4, [(4, .call [0] (.d (C13.sgD sg)) [ppB { s with sq := q, du := false }])])], G := [(54, gA (.tup [.d (C11.sqD q), .d (C11.ckD c), .d (.str t)]))]}) (subs := []) (ws := []) (ρ := []) (by kernel_rfl) ?_
 repeat' (with_reducible first|exact ⟨⟩|apply And.intro|(first|apply zA|apply zB|apply zC|apply zD|apply zE|apply zF|apply zG)<;>intro)
 all_goals first | exact k1 | exact k2 | rfl | exact dyes (by assumption) | exact dno (by assumption) | (refine congrArg D.bool ?_; simp [*]; done) | (exfalso; simp_all; done) | skip
theorem speak29b (s : Pp) (q : C11.Sq) (c : C11.Ck) (t : List UInt8) (sg : C13.Sg) (k1 : FnOK Tryz.prog 54 [.d (C11.sqD s.sq), .d (.int .i64 s.no), .d (.int .i64 s.wn.w), .d (.int .i64 s.li)] [] (.tup [.d (C11.sqD q), .d (C11.ckD c), .d (.str t)]) []) (ht : t = []) (hd : s.du = false) (hq : IntKind.i64.wrap (s.no - max s.he s.pr) < 16) (k2 : True) : FnOK Tryz.prog 29 ([.ptr 0 0]) ([ppB s]) (.tup [.d (C13.sgD C13.sgZ), .d (.bool false)]) ([ppB s]) := by
 refine fnOK_wp (p := (FnOK Tryz.prog 54 [AV.d (C11.sqD s.sq), vI s.no, vI s.wn.w, vI s.li] [] (AV.tup [AV.d (C11.sqD q), AV.d (C11.ckD c), vS t]) []) ∧ ((D.bool !t == []) = D.bool false) ∧ (D.bool s.du = D.bool false) ∧ (rf (D.bool true)) ∧ (D.bool (decide (IntKind.i64.wrap (s.no - max s.he s.pr) < (16 : Int))) = D.bool true) ∧ (rf (AV.tup [AV.d (.agg [D.int .u8 0, D.int .i64 0, D.int .i64 0, D.int .u32 0, D.int .u32 0, D.int .i64 0, D.sl [], D.str []]), vB false])) ∧ (rf (ppB s)) ∧ True) (h := {H := [(2, [(1, .val (.bool false))]), (5, [(4, .val (.bool false))]), (6, [(20, .val (.bool true))])], G := [(54, gA (.tup [.d (C11.sqD q), .d (C11.ckD c), .d (.str t)]))]}) (subs := []) (ws := []) (ρ := []) (by kernel_rfl) ?_
 repeat' (with_reducible first|exact ⟨⟩|apply And.intro|(first|apply zA|apply zB|apply zC|apply zD|apply zE|apply zF|apply zG)<;>intro)
 all_goals first | exact k1 | exact k2 | rfl | exact dyes (by assumption) | exact dno (by assumption) | (refine congrArg D.bool ?_; simp [*]; done) | (exfalso; simp_all; done) | skip
theorem speak29c (s : Pp) (q : C11.Sq) (c : C11.Ck) (t : List UInt8) (sg : C13.Sg) (k1 : FnOK Tryz.prog 54 [.d (C11.sqD s.sq), .d (.int .i64 s.no), .d (.int .i64 s.wn.w), .d (.int .i64 s.li)] [] (.tup [.d (C11.sqD q), .d (C11.ckD c), .d (.str t)]) []) (ht : t = []) (hd : s.du = true) (k2 : FnOK Tryz.prog 55 [.ptr 0 0, .d (.int .i64 s.sq.n), .d (.str [])] [ppB s] (.d (C13.sgD sg)) [ppB { s with du := false }]) : FnOK Tryz.prog 29 ([.ptr 0 0]) ([ppB s]) (.tup [.d (C13.sgD sg), .d (.bool true)]) ([ppB { s with du := false }]) := by
 refine fnOK_wp (p := (FnOK Tryz.prog 54 [AV.d (C11.sqD s.sq), vI s.no, vI s.wn.w, vI s.li] [] (AV.tup [AV.d (C11.sqD q), AV.d (C11.ckD c), vS t]) []) ∧ ((D.bool !t == []) = D.bool false) ∧ (D.bool s.du = D.bool true) ∧ (rf (D.bool false)) ∧ (FnOK Tryz.prog 55 [AV.ptr 0 0, vI s.sq.n, vS []] [ppB s] (AV.d (C13.sgD sg)) [ppB { s with du := false }]) ∧ (rf (AV.tup [AV.d (C13.sgD sg), vB true])) ∧ (rf (ppB { s with du := false })) ∧ True) (h := {H := [(2, [(1, .val (.bool false))]), (5, [(4, .val (.bool true))]), (8, [(7, .call [0] (.d (C13.sgD sg)) [ppB { s with du := false }])])], G := [(54, gA (.tup [.d (C11.sqD q), .d (C11.ckD c), .d (.str t)]))]}) (subs := []) (ws := []) (ρ := []) (by kernel_rfl) ?_
 repeat' (with_reducible first|exact ⟨⟩|apply And.intro|(first|apply zA|apply zB|apply zC|apply zD|apply zE|apply zF|apply zG)<;>intro)
 all_goals first | exact k1 | exact k2 | rfl | exact dyes (by assumption) | exact dno (by assumption) | (refine congrArg D.bool ?_; simp [*]; done) | (exfalso; simp_all; done) | skip
theorem speak29d (s : Pp) (q : C11.Sq) (c : C11.Ck) (t : List UInt8) (sg : C13.Sg) (k1 : FnOK Tryz.prog 54 [.d (C11.sqD s.sq), .d (.int .i64 s.no), .d (.int .i64 s.wn.w), .d (.int .i64 s.li)] [] (.tup [.d (C11.sqD q), .d (C11.ckD c), .d (.str t)]) []) (ht : t = []) (hd : s.du = false) (hq : ¬IntKind.i64.wrap (s.no - max s.he s.pr) < 16) (hf : sg.f = 2) (k2 : FnOK Tryz.prog 55 [.ptr 0 0, .d (.int .i64 s.sq.n), .d (.str [])] [ppB s] (.d (C13.sgD sg)) [ppB { s with du := false }]) : FnOK Tryz.prog 29 ([.ptr 0 0]) ([ppB s]) (.tup [.d (C13.sgD { sg with f := 18 }), .d (.bool true)]) ([ppB { s with du := false, pr := s.no }]) := by
 refine fnOK_wp (p := (FnOK Tryz.prog 54 [AV.d (C11.sqD s.sq), vI s.no, vI s.wn.w, vI s.li] [] (AV.tup [AV.d (C11.sqD q), AV.d (C11.ckD c), vS t]) []) ∧ ((D.bool !t == []) = D.bool false) ∧ (D.bool s.du = D.bool false) ∧ (rf (D.bool true)) ∧ (D.bool (decide (IntKind.i64.wrap (s.no - max s.he s.pr) < (16 : Int))) = D.bool false) ∧ (FnOK Tryz.prog 55 [AV.ptr 0 0, vI s.sq.n, vS []] [ppB s] (AV.d (C13.sgD sg)) [ppB { s with du := false }]) ∧ (D.int .u8 (bitsI BinOp.or IntKind.u8 sg.f (16 : Int)) = D.int .u8 18) ∧ (rf (AV.tup [AV.d (.agg [D.int .u8 18, D.int .i64 sg.p, D.int .i64 sg.e, D.int .u32 sg.q, D.int .u32 sg.a, D.int .i64 sg.w, D.sl sg.k, D.str sg.t]), vB true])) ∧ (rf (ppB { s with pr := s.no, du := false })) ∧ True) (h := {H := [(2, [(1, .val (.bool false))]), (5, [(4, .val (.bool false))]), (6, [(20, .val (.bool false))]), (8, [(7, .call [0] (.d (C13.sgD sg)) [ppB { s with du := false }])]), (10, [(2, .val (.int .u8 18))])], G := [(54, gA (.tup [.d (C11.sqD q), .d (C11.ckD c), .d (.str t)]))]}) (subs := []) (ws := []) (ρ := []) (by kernel_rfl) ?_
 have hb : bitsI .or .u8 sg.f 16 = 18 := by rw [hf]; rfl
 repeat' (with_reducible first|exact ⟨⟩|apply And.intro|(first|apply zA|apply zB|apply zC|apply zD|apply zE|apply zF|apply zG)<;>intro)
 all_goals first | exact k1 | exact k2 | rfl | exact dyes (by assumption) | exact dno (by assumption) | exact congrArg (D.int .u8) hb | (refine congrArg D.bool ?_; simp [*]; done) | (exfalso; simp_all; done) | skip
/-- What is in reach of the calls. -/
structure PpR (s : Pp) : Prop where
 sq : C11.SqOk s.sq
 fl : s.sq.fl.length < 10000
 cm : s.sq.cm.length < 10000
 rq : C12.Rb s.rq
 rb : 0 ≤ s.rq.b ∧ s.rq.b ≤ 1099511627776
 rp : s.rq.p.length < 900000
 rh : C12.rHeld s.rq < 800000
 wn : -9223372036854775808 ≤ s.wn.w ∧ s.wn.w < 9223372036854775808
 li : -9223372036854775808 ≤ s.li ∧ s.li < 9223372036854775808
theorem speak29 (s : Pp) (ok : PpR s) : FnOK Tryz.prog 29 [.ptr 0 0] [ppB s] (.tup [.d (C13.sgD (pSpeak s).2.1), .d (.bool (pSpeak s).2.2)]) [ppB (pSpeak s).1] := by
 have k1 := C11.pick12 s.sq ok.sq s.no s.wn.w s.li ok.wn ok.li
 unfold pSpeak
 by_cases ht : (pPick s).2.2 ≠ []
 ·rw [if_pos ht]
  exact speak29a s _ _ _ _ k1 ht (bear55 { s with sq := (pPick s).1 } ok.rq ok.rb _ _)
 ·rw [if_neg ht]
  have ht : (pPick s).2.2 = [] := Decidable.not_not.1 ht
  by_cases h : s.du = false ∧ IntKind.i64.wrap (s.no - max s.he s.pr) < 16
  ·rw [if_pos h]
   exact speak29b s _ _ _ ⟨0, 0, 0, 0, 0, 0, [], []⟩ k1 ht h.1 h.2 trivial
  ·rw [if_neg h]
   by_cases hd : s.du = true
   ·rw [if_pos hd]
    exact speak29c s _ _ _ _ k1 ht hd (bear55 s ok.rq ok.rb _ _)
   ·rw [if_neg hd]
    have hd : s.du = false := by simpa using hd
    exact speak29d s _ _ _ _ k1 ht hd (fun g => h ⟨hd, g⟩) rfl (bear55 s ok.rq ok.rb _ _)
theorem out16u (s s' : Pp) (x : C13.Sg) (b : Bool) (h : pUp s = true) (k2 : FnOK Tryz.prog 29 [.ptr 0 0] [ppB s] (.tup [.d (C13.sgD x), .d (.bool b)]) [ppB s']) : FnOK Tryz.prog 16 ([.d (ppD s)]) ([]) (.tup [.d (ppD s'), .d (C13.sgD x), .d (.bool b)]) ([]) := by
 refine fnOK_wp (p := (FnOK Tryz.prog 12 [AV.d (ppD s)] [] (vB true) []) ∧ (FnOK Tryz.prog 29 [AV.ptr 0 0] [ppB s] (AV.tup [AV.d (C13.sgD x), vB b]) [ppB s']) ∧ (rf (AV.tup [AV.d (ppD s'), AV.d (C13.sgD x), vB b])) ∧ True) (h := {H := [(3, [(1, .call [] (.d (.bool true)) [])]), (5, [(1, .call [1088] (.tup [.d (C13.sgD x), .d (.bool b)]) [ppB s'])])]}) (subs := []) (ws := []) (ρ := []) (by kernel_rfl) ?_
 have k1 := alive12 s
 rw [h] at k1
 repeat' (with_reducible first|exact ⟨⟩|apply And.intro|(first|apply zA|apply zB|apply zC|apply zD|apply zE|apply zF|apply zG)<;>intro)
 all_goals first | exact k1 | exact k2 | rfl | skip
theorem out16n (s s' : Pp) (x : C13.Sg) (b : Bool) (h : pUp s = false) (k2 : FnOK Tryz.prog 28 [.ptr 0 0] [ppB s] (.tup [.d (C13.sgD x), .d (.bool b)]) [ppB s']) : FnOK Tryz.prog 16 ([.d (ppD s)]) ([]) (.tup [.d (ppD s'), .d (C13.sgD x), .d (.bool b)]) ([]) := by
 refine fnOK_wp (p := (FnOK Tryz.prog 12 [AV.d (ppD s)] [] (vB false) []) ∧ (FnOK Tryz.prog 28 [AV.ptr 0 0] [ppB s] (AV.tup [AV.d (C13.sgD x), vB b]) [ppB s']) ∧ (rf (AV.tup [AV.d (ppD s'), AV.d (C13.sgD x), vB b])) ∧ True) (h := {H := [(3, [(1, .call [] (.d (.bool false)) [])]), (5, [(1, .call [1088] (.tup [.d (C13.sgD x), .d (.bool b)]) [ppB s'])])]}) (subs := []) (ws := []) (ρ := []) (by kernel_rfl) ?_
 have k1 := alive12 s
 rw [h] at k1
 repeat' (with_reducible first|exact ⟨⟩|apply And.intro|(first|apply zA|apply zB|apply zC|apply zD|apply zE|apply zF|apply zG)<;>intro)
 all_goals first | exact k1 | exact k2 | rfl | skip
theorem out16 (s : Pp) (ok : PpR s) : FnOK Tryz.prog 16 [.d (ppD s)] [] (.tup [.d (ppD (pOut s).1), .d (C13.sgD (pOut s).2.1), .d (.bool (pOut s).2.2)]) [] := by
 unfold pOut
 cases h : pUp s
 ·rw [if_neg (by simp)]; exact out16n s _ _ _ h (greet28 s)
 ·rw [if_pos rfl]; exact out16u s _ _ _ h (speak29 s ok)
structure SgR (x : C13.Sg) : Prop where
 f : 0 ≤ x.f ∧ x.f < 256
 k : ∃ bs : List (Int × Int), x.k = bs.map bkD ∧ bs.length < 9000
 t : x.t.length < 50000
theorem on17 (s : Pp) (ok : PpR s) (x : C13.Sg) (hx : SgR x) : FnOK Tryz.prog 17 [.d (ppD s), .d (C13.sgD x)] [] (.d (ppD (pOn s x))) [] := by
 obtain ⟨bs, hk, hl⟩ := hx.k
 have hr := ok.rh
 have ht := hx.t
 unfold pOn
 cases h : pDead s
 ·cases hf : C13.nFit s.sh x
  ·rw [if_pos (by simp)]
   exact on17f s s s x h hx.f.1 hx.f.2 hf
  ·rw [if_neg (by simp)]
   cases hu : pUp { s with he := s.no, sh := C13.nOn s.sh x }
   ·rw [if_neg (by simp)]
    exact on17n s _ s x h hx.f.1 hx.f.2 hf rfl hu
   ·rw [if_pos rfl]
    exact on17u s _ _ x h hx.f.1 hx.f.2 hf rfl hu (took32 { s with he := s.no, sh := C13.nOn s.sh x } ok.sq ok.fl ok.cm ok.rq ok.rp x (by show C12.rHeld s.rq + _ < _; omega) bs hk hl)
 ·rw [if_pos (by simp)]
  exact on17d s x h
end Go.Proofs.YtalpfhpeaaocmaaGreat
end
section
namespace Go.Proofs.YtalpfhpeaaocmaaGreat
open Sx Go.RowKit
def ppC (s : Pp) : List AV := [.d (.int .u8 s.sh.g), .d (.int .i64 s.sh.p), .d (.int .i64 s.sh.e), .d (.int .u32 s.sh.m), .d (.int .u32 s.sh.h),
 .d (.int .i64 s.sq.b), .d (.str s.sq.d), .d (.int .i64 s.sq.n), .d (.sl (s.sq.fl.map C11.ckD)), .d (.sl (s.sq.cm.map C06.ivD)),
 .d (.int .i64 s.rq.b), .d (.str s.rq.r), .d (.sl (s.rq.p.map C12.ptD)), .d (.int .i64 s.rt.s), .d (.int .i64 s.rt.v), .d (.bool s.rt.k), .d (.int .i64 s.rt.h),
 .d (.int .i64 s.wn.w), .d (.int .i64 s.wn.t), .d (.int .i64 s.wn.p), .d (.int .i64 s.li), .d (.int .i64 s.no), .d (.int .i64 s.he), .d (.int .i64 s.nx), .d (.int .i64 s.pr), .d (.bool s.du)]
def tkB (a b : Nat) (t : Tk) : Ob := .box (ppC t.e0 ++ (ppC t.e1 ++ [.own a 8, .own b 8, .d (.str t.w0), .d (.str t.w1), .d (.str t.r0), .d (.str t.r1), .d (.int .i64 t.now)]))
def tkO (t : Tk) : List Ob := [tkB 1 2 t, .row 8 (t.s0.map C13.sgD), .row 8 (t.s1.map C13.sgD)]
def tkP (t : Tk) : List Ob := [tkB 3 2 t, .gone, .row 8 (t.s1.map C13.sgD), .row 8 (t.s0.map C13.sgD)]
def tkQ (t : Tk) : List Ob := [tkB 1 3 t, .row 8 (t.s0.map C13.sgD), .gone, .row 8 (t.s1.map C13.sgD)]
theorem deed0 (t t' : Tk) (d : De) (hw0 : t.w0.length + d.t.length < 1000000000) (hw1 : t.w1.length + d.t.length < 1000000000) (hn : IntKind.i64.wrap d.n = d.n) (e : Pp) (n : Int) (k1 : FnOK Tryz.prog 15 [.d (ppD t.e0), .d (.str d.t)] [] (.tup [.d (ppD e), .d (.int .i64 n)]) []) (hk : d.k.tmod 9 = 0) (hz : t' = { t with e0 := e, w0 := t.w0 ++ d.t.take (max 0 (min n d.t.length)).toNat }) : FnOK Tryz.prog 9 ([.ptr 0 0, .d (deD d)]) (tkO t) (.tup []) (tkO t') := by
 refine fnOK_wp (p := (D.int .u8 (d.k.tmod (9 : Int)) = D.int .u8 0) ∧ ((9 : Int) ≠ (0 : Int)) ∧ ((0 : Int) ≤ IntKind.i64.wrap (0 : Int) ∧ IntKind.i64.wrap (0 : Int) < (↑2 : Int)) ∧ (FnOK Tryz.prog 15 [AV.d (ppD t.e0), vS d.t] [] (AV.tup [AV.d (ppD e), vI n]) []) ∧ ((0 : Int) ≤ IntKind.i64.wrap (0 : Int) ∧ IntKind.i64.wrap (0 : Int) < (↑2 : Int)) ∧ ((0 : Int) ≤ IntKind.i64.wrap (0 : Int) ∧ IntKind.i64.wrap (0 : Int) < (↑2 : Int)) ∧ ((0 : Int) ≤ (0 : Int) ∧ (0 : Int) ≤ max (0 : Int) (min n (↑d.t.length : Int)) ∧ max (0 : Int) (min n (↑d.t.length : Int)) ≤ (↑d.t.length : Int)) ∧ ((↑(t.w0.length + (List.drop 0 (List.take (max (0 : Int) (min n (↑d.t.length : Int))).toNat d.t)).length) : Int) ≤ (9223372036854775807 : Int)) ∧ ((0 : Int) ≤ IntKind.i64.wrap (0 : Int) ∧ IntKind.i64.wrap (0 : Int) < (↑2 : Int)) ∧ (rf (AV.tup [])) ∧ (Ob.box (ppC e ++ (ppC t.e1 ++ [AV.own 1 8, AV.own 2 8, vS (t.w0 ++ List.drop 0 (List.take (max (0 : Int) (min n (↑d.t.length : Int))).toNat d.t)), vS t.w1, vS t.r0, vS t.r1, vI t.now])) = Ob.box (ppC t'.e0 ++ (ppC t'.e1 ++ [AV.own 1 8, AV.own 2 8, vS t'.w0, vS t'.w1, vS t'.r0, vS t'.r1, vI t'.now]))) ∧ (Ob.row 8 (List.map C13.sgD t.s0) = Ob.row 8 (List.map C13.sgD t'.s0)) ∧ (Ob.row 8 (List.map C13.sgD t.s1) = Ob.row 8 (List.map C13.sgD t'.s1)) ∧ True) (h := {H := [(1, [(2, .val (.int .u8 0))])], G := [(15, gA (.tup [.d (ppD e), .d (.int .i64 n)]))]}) (subs := []) (ws := []) (ρ := []) (by kernel_rfl) ?_
 subst hz
 try simp only [List.length_map, hn]
 repeat' (with_reducible first|exact ⟨⟩|apply And.intro|(first|apply zA|apply zB|apply zC|apply zD|apply zE|apply zF|apply zG)<;>intro)
 all_goals first | exact k1 | exact k2 | exact congrArg (D.int .u8) hk | exact hn2 | exact hx2 | exact congrArg (D.int .i64) hi | exact Int.ofNat_lt.2 (get_lt hx) | rfl | omega | decide | (simp [chunk, D.cells]; done) | (rw [List.map_append]; rfl) | (simp; omega) | (rw [List.drop_zero, List.length_take]; omega) | (refine congrArg D.bool ?_; simp; omega) | skip
theorem deed1 (t t' : Tk) (d : De) (hw0 : t.w0.length + d.t.length < 1000000000) (hw1 : t.w1.length + d.t.length < 1000000000) (hn : IntKind.i64.wrap d.n = d.n) (e : Pp) (n : Int) (k1 : FnOK Tryz.prog 15 [.d (ppD t.e1), .d (.str d.t)] [] (.tup [.d (ppD e), .d (.int .i64 n)]) []) (hk : d.k.tmod 9 = 1) (hz : t' = { t with e1 := e, w1 := t.w1 ++ d.t.take (max 0 (min n d.t.length)).toNat }) : FnOK Tryz.prog 9 ([.ptr 0 0, .d (deD d)]) (tkO t) (.tup []) (tkO t') := by
 refine fnOK_wp (p := (D.int .u8 (d.k.tmod (9 : Int)) = D.int .u8 1) ∧ ((9 : Int) ≠ (0 : Int)) ∧ ((0 : Int) ≤ IntKind.i64.wrap (1 : Int) ∧ IntKind.i64.wrap (1 : Int) < (↑2 : Int)) ∧ (FnOK Tryz.prog 15 [AV.d (ppD t.e1), vS d.t] [] (AV.tup [AV.d (ppD e), vI n]) []) ∧ ((0 : Int) ≤ IntKind.i64.wrap (1 : Int) ∧ IntKind.i64.wrap (1 : Int) < (↑2 : Int)) ∧ ((0 : Int) ≤ IntKind.i64.wrap (1 : Int) ∧ IntKind.i64.wrap (1 : Int) < (↑2 : Int)) ∧ ((0 : Int) ≤ (0 : Int) ∧ (0 : Int) ≤ max (0 : Int) (min n (↑d.t.length : Int)) ∧ max (0 : Int) (min n (↑d.t.length : Int)) ≤ (↑d.t.length : Int)) ∧ ((↑(t.w1.length + (List.drop 0 (List.take (max (0 : Int) (min n (↑d.t.length : Int))).toNat d.t)).length) : Int) ≤ (9223372036854775807 : Int)) ∧ ((0 : Int) ≤ IntKind.i64.wrap (1 : Int) ∧ IntKind.i64.wrap (1 : Int) < (↑2 : Int)) ∧ (rf (AV.tup [])) ∧ (Ob.box (ppC t.e0 ++ (ppC e ++ [AV.own 1 8, AV.own 2 8, vS t.w0, vS (t.w1 ++ List.drop 0 (List.take (max (0 : Int) (min n (↑d.t.length : Int))).toNat d.t)), vS t.r0, vS t.r1, vI t.now])) = Ob.box (ppC t'.e0 ++ (ppC t'.e1 ++ [AV.own 1 8, AV.own 2 8, vS t'.w0, vS t'.w1, vS t'.r0, vS t'.r1, vI t'.now]))) ∧ (Ob.row 8 (List.map C13.sgD t.s0) = Ob.row 8 (List.map C13.sgD t'.s0)) ∧ (Ob.row 8 (List.map C13.sgD t.s1) = Ob.row 8 (List.map C13.sgD t'.s1)) ∧ True) (h := {H := [(1, [(2, .val (.int .u8 1))])], G := [(15, gA (.tup [.d (ppD e), .d (.int .i64 n)]))]}) (subs := []) (ws := []) (ρ := []) (by kernel_rfl) ?_
 subst hz
 try simp only [List.length_map, hn]
 repeat' (with_reducible first|exact ⟨⟩|apply And.intro|(first|apply zA|apply zB|apply zC|apply zD|apply zE|apply zF|apply zG)<;>intro)
 all_goals first | exact k1 | exact k2 | exact congrArg (D.int .u8) hk | exact hn2 | exact hx2 | exact congrArg (D.int .i64) hi | exact Int.ofNat_lt.2 (get_lt hx) | rfl | omega | decide | (simp [chunk, D.cells]; done) | (rw [List.map_append]; rfl) | (simp; omega) | (rw [List.drop_zero, List.length_take]; omega) | (refine congrArg D.bool ?_; simp; omega) | skip
theorem deed2 (t t' : Tk) (d : De) (hw0 : t.w0.length + d.t.length < 1000000000) (hw1 : t.w1.length + d.t.length < 1000000000) (hn : IntKind.i64.wrap d.n = d.n) (e0 e1 : Pp) (now : Int) (k1 : FnOK Tryz.prog 24 [.d (ppD t.e0), .d (.int .i64 now)] [] (.d (ppD e0)) []) (k2 : FnOK Tryz.prog 24 [.d (ppD t.e1), .d (.int .i64 now)] [] (.d (ppD e1)) []) (hnw : IntKind.i64.wrap (t.now + 1) = now) (hk : d.k.tmod 9 = 2) (hz : t' = { t with e0 := e0, e1 := e1, now := now }) : FnOK Tryz.prog 9 ([.ptr 0 0, .d (deD d)]) (tkO t) (.tup []) (tkO t') := by
 refine fnOK_wp (p := (D.int .u8 (d.k.tmod (9 : Int)) = D.int .u8 2) ∧ ((9 : Int) ≠ (0 : Int)) ∧ (D.int .i64 (IntKind.i64.wrap (t.now + (1 : Int))) = D.int .i64 now) ∧ ((0 : Int) ≤ (0 : Int) ∧ (0 : Int) < (↑2 : Int)) ∧ (FnOK Tryz.prog 24 [AV.d (ppD t.e0), vI now] [] (AV.d (ppD e0)) []) ∧ ((0 : Int) ≤ (1 : Int) ∧ (1 : Int) < (↑2 : Int)) ∧ (FnOK Tryz.prog 24 [AV.d (ppD t.e1), vI now] [] (AV.d (ppD e1)) []) ∧ ((0 : Int) ≤ (0 : Int) ∧ (0 : Int) < (↑2 : Int)) ∧ ((0 : Int) ≤ (1 : Int) ∧ (1 : Int) < (↑2 : Int)) ∧ (rf (AV.tup [])) ∧ (Ob.box (ppC e0 ++ (ppC e1 ++ [AV.own 1 8, AV.own 2 8, vS t.w0, vS t.w1, vS t.r0, vS t.r1, vI now])) = Ob.box (ppC t'.e0 ++ (ppC t'.e1 ++ [AV.own 1 8, AV.own 2 8, vS t'.w0, vS t'.w1, vS t'.r0, vS t'.r1, vI t'.now]))) ∧ (Ob.row 8 (List.map C13.sgD t.s0) = Ob.row 8 (List.map C13.sgD t'.s0)) ∧ (Ob.row 8 (List.map C13.sgD t.s1) = Ob.row 8 (List.map C13.sgD t'.s1)) ∧ True) (h := {H := [(1, [(2, .val (.int .u8 2))]), (10, [(4, .val (.int .i64 now))]), (11, [(11, .call [] (.d (ppD e0)) []), (21, .call [] (.d (ppD e1)) [])])]}) (subs := []) (ws := []) (ρ := []) (by kernel_rfl) ?_
 have hn2 := congrArg (D.int .i64) hnw
 subst hz
 try simp only [List.length_map, hn]
 repeat' (with_reducible first|exact ⟨⟩|apply And.intro|(first|apply zA|apply zB|apply zC|apply zD|apply zE|apply zF|apply zG)<;>intro)
 all_goals first | exact k1 | exact k2 | exact congrArg (D.int .u8) hk | exact hn2 | exact hx2 | exact congrArg (D.int .i64) hi | exact Int.ofNat_lt.2 (get_lt hx) | rfl | omega | decide | (simp [chunk, D.cells]; done) | (rw [List.map_append]; rfl) | (simp; omega) | (rw [List.drop_zero, List.length_take]; omega) | (refine congrArg D.bool ?_; simp; omega) | skip
theorem deed3y (t t' : Tk) (d : De) (hw0 : t.w0.length + d.t.length < 1000000000) (hw1 : t.w1.length + d.t.length < 1000000000) (hn : IntKind.i64.wrap d.n = d.n) (e : Pp) (x : C13.Sg) (k1 : FnOK Tryz.prog 16 [.d (ppD t.e0)] [] (.tup [.d (ppD e), .d (C13.sgD x), .d (.bool true)]) []) (hs : t.s0.length < 1000000) (hk : d.k.tmod 9 = 3) (hz : t' = { t with e0 := e, s0 := t.s0 ++ [x] }) : FnOK Tryz.prog 9 ([.ptr 0 0, .d (deD d)]) (tkO t) (.tup []) (tkP t') := by
 refine fnOK_wp (p := (D.int .u8 (d.k.tmod (9 : Int)) = D.int .u8 3) ∧ ((9 : Int) ≠ (0 : Int)) ∧ ((0 : Int) ≤ IntKind.i64.wrap (IntKind.i64.wrap (3 : Int) - (3 : Int)) ∧ IntKind.i64.wrap (IntKind.i64.wrap (3 : Int) - (3 : Int)) < (↑2 : Int)) ∧ (FnOK Tryz.prog 16 [AV.d (ppD t.e0)] [] (AV.tup [AV.d (ppD e), AV.d (C13.sgD x), vB true]) []) ∧ ((0 : Int) ≤ IntKind.i64.wrap (IntKind.i64.wrap (3 : Int) - (3 : Int)) ∧ IntKind.i64.wrap (IntKind.i64.wrap (3 : Int) - (3 : Int)) < (↑2 : Int)) ∧ ((0 : Int) ≤ IntKind.i64.wrap (IntKind.i64.wrap (3 : Int) - (3 : Int)) ∧ IntKind.i64.wrap (IntKind.i64.wrap (3 : Int) - (3 : Int)) < (↑2 : Int)) ∧ (((List.map C13.sgD t.s0).length + [D.agg (List.take 8 [D.int .u8 x.f, D.int .i64 x.p, D.int .i64 x.e, D.int .u32 x.q, D.int .u32 x.a, D.int .i64 x.w, D.sl x.k, D.str x.t])].length) * 80 ≤ 140737488355328) ∧ (∀ (e : D), e ∈ chunk 8 1 [D.int .u8 x.f, D.int .i64 x.p, D.int .i64 x.e, D.int .u32 x.q, D.int .u32 x.a, D.int .i64 x.w, D.sl x.k, D.str x.t] → e.cells.length = 8) ∧ ((0 : Int) ≤ IntKind.i64.wrap (IntKind.i64.wrap (3 : Int) - (3 : Int)) ∧ IntKind.i64.wrap (IntKind.i64.wrap (3 : Int) - (3 : Int)) < (↑2 : Int)) ∧ (rf (AV.tup [])) ∧ (Ob.box (ppC e ++ (ppC t.e1 ++ [AV.own 2304 8, AV.own 2 8, vS t.w0, vS t.w1, vS t.r0, vS t.r1, vI t.now])) = Ob.box (ppC t'.e0 ++ (ppC t'.e1 ++ [AV.own 2304 8, AV.own 2 8, vS t'.w0, vS t'.w1, vS t'.r0, vS t'.r1, vI t'.now]))) ∧ (rf (Ob.gone)) ∧ (Ob.row 8 (List.map C13.sgD t.s1) = Ob.row 8 (List.map C13.sgD t'.s1)) ∧ (Ob.row 8 (List.map C13.sgD t.s0 ++ [D.agg (List.take 8 [D.int .u8 x.f, D.int .i64 x.p, D.int .i64 x.e, D.int .u32 x.q, D.int .u32 x.a, D.int .i64 x.w, D.sl x.k, D.str x.t])]) = Ob.row 8 (List.map C13.sgD t'.s0)) ∧ True) (h := {H := [(1, [(2, .val (.int .u8 3))])], G := [(16, gA (.tup [.d (ppD e), .d (C13.sgD x), .d (.bool true)]))]}) (subs := []) (ws := []) (ρ := []) (by kernel_rfl) ?_
 subst hz
 try simp only [List.length_map, hn]
 repeat' (with_reducible first|exact ⟨⟩|apply And.intro|(first|apply zA|apply zB|apply zC|apply zD|apply zE|apply zF|apply zG)<;>intro)
 all_goals first | exact k1 | exact k2 | exact congrArg (D.int .u8) hk | exact hn2 | exact hx2 | exact congrArg (D.int .i64) hi | exact Int.ofNat_lt.2 (get_lt hx) | rfl | omega | decide | (simp [chunk, D.cells]; done) | (rw [List.map_append]; rfl) | (simp; omega) | (rw [List.drop_zero, List.length_take]; omega) | (refine congrArg D.bool ?_; simp; omega) | skip
theorem deed3n (t t' : Tk) (d : De) (hw0 : t.w0.length + d.t.length < 1000000000) (hw1 : t.w1.length + d.t.length < 1000000000) (hn : IntKind.i64.wrap d.n = d.n) (e : Pp) (x : C13.Sg) (k1 : FnOK Tryz.prog 16 [.d (ppD t.e0)] [] (.tup [.d (ppD e), .d (C13.sgD x), .d (.bool false)]) []) (hs : t.s0.length < 1000000) (hk : d.k.tmod 9 = 3) (hz : t' = { t with e0 := e }) : FnOK Tryz.prog 9 ([.ptr 0 0, .d (deD d)]) (tkO t) (.tup []) (tkO t') := by
 refine fnOK_wp (p := (D.int .u8 (d.k.tmod (9 : Int)) = D.int .u8 3) ∧ ((9 : Int) ≠ (0 : Int)) ∧ ((0 : Int) ≤ IntKind.i64.wrap (IntKind.i64.wrap (3 : Int) - (3 : Int)) ∧ IntKind.i64.wrap (IntKind.i64.wrap (3 : Int) - (3 : Int)) < (↑2 : Int)) ∧ (FnOK Tryz.prog 16 [AV.d (ppD t.e0)] [] (AV.tup [AV.d (ppD e), AV.d (C13.sgD x), vB false]) []) ∧ ((0 : Int) ≤ IntKind.i64.wrap (IntKind.i64.wrap (3 : Int) - (3 : Int)) ∧ IntKind.i64.wrap (IntKind.i64.wrap (3 : Int) - (3 : Int)) < (↑2 : Int)) ∧ (rf (AV.tup [])) ∧ (Ob.box (ppC e ++ (ppC t.e1 ++ [AV.own 1 8, AV.own 2 8, vS t.w0, vS t.w1, vS t.r0, vS t.r1, vI t.now])) = Ob.box (ppC t'.e0 ++ (ppC t'.e1 ++ [AV.own 1 8, AV.own 2 8, vS t'.w0, vS t'.w1, vS t'.r0, vS t'.r1, vI t'.now]))) ∧ (Ob.row 8 (List.map C13.sgD t.s0) = Ob.row 8 (List.map C13.sgD t'.s0)) ∧ (Ob.row 8 (List.map C13.sgD t.s1) = Ob.row 8 (List.map C13.sgD t'.s1)) ∧ True) (h := {H := [(1, [(2, .val (.int .u8 3))])], G := [(16, gA (.tup [.d (ppD e), .d (C13.sgD x), .d (.bool false)]))]}) (subs := []) (ws := []) (ρ := []) (by kernel_rfl) ?_
 subst hz
 try simp only [List.length_map, hn]
 repeat' (with_reducible first|exact ⟨⟩|apply And.intro|(first|apply zA|apply zB|apply zC|apply zD|apply zE|apply zF|apply zG)<;>intro)
 all_goals first | exact k1 | exact k2 | exact congrArg (D.int .u8) hk | exact hn2 | exact hx2 | exact congrArg (D.int .i64) hi | exact Int.ofNat_lt.2 (get_lt hx) | rfl | omega | decide | (simp [chunk, D.cells]; done) | (rw [List.map_append]; rfl) | (simp; omega) | (rw [List.drop_zero, List.length_take]; omega) | (refine congrArg D.bool ?_; simp; omega) | skip
theorem deed4y (t t' : Tk) (d : De) (hw0 : t.w0.length + d.t.length < 1000000000) (hw1 : t.w1.length + d.t.length < 1000000000) (hn : IntKind.i64.wrap d.n = d.n) (e : Pp) (x : C13.Sg) (k1 : FnOK Tryz.prog 16 [.d (ppD t.e1)] [] (.tup [.d (ppD e), .d (C13.sgD x), .d (.bool true)]) []) (hs : t.s1.length < 1000000) (hk : d.k.tmod 9 = 4) (hz : t' = { t with e1 := e, s1 := t.s1 ++ [x] }) : FnOK Tryz.prog 9 ([.ptr 0 0, .d (deD d)]) (tkO t) (.tup []) (tkQ t') := by
 refine fnOK_wp (p := (D.int .u8 (d.k.tmod (9 : Int)) = D.int .u8 4) ∧ ((9 : Int) ≠ (0 : Int)) ∧ ((0 : Int) ≤ IntKind.i64.wrap (IntKind.i64.wrap (4 : Int) - (3 : Int)) ∧ IntKind.i64.wrap (IntKind.i64.wrap (4 : Int) - (3 : Int)) < (↑2 : Int)) ∧ (FnOK Tryz.prog 16 [AV.d (ppD t.e1)] [] (AV.tup [AV.d (ppD e), AV.d (C13.sgD x), vB true]) []) ∧ ((0 : Int) ≤ IntKind.i64.wrap (IntKind.i64.wrap (4 : Int) - (3 : Int)) ∧ IntKind.i64.wrap (IntKind.i64.wrap (4 : Int) - (3 : Int)) < (↑2 : Int)) ∧ ((0 : Int) ≤ IntKind.i64.wrap (IntKind.i64.wrap (4 : Int) - (3 : Int)) ∧ IntKind.i64.wrap (IntKind.i64.wrap (4 : Int) - (3 : Int)) < (↑2 : Int)) ∧ (((List.map C13.sgD t.s1).length + [D.agg (List.take 8 [D.int .u8 x.f, D.int .i64 x.p, D.int .i64 x.e, D.int .u32 x.q, D.int .u32 x.a, D.int .i64 x.w, D.sl x.k, D.str x.t])].length) * 80 ≤ 140737488355328) ∧ (∀ (e : D), e ∈ chunk 8 1 [D.int .u8 x.f, D.int .i64 x.p, D.int .i64 x.e, D.int .u32 x.q, D.int .u32 x.a, D.int .i64 x.w, D.sl x.k, D.str x.t] → e.cells.length = 8) ∧ ((0 : Int) ≤ IntKind.i64.wrap (IntKind.i64.wrap (4 : Int) - (3 : Int)) ∧ IntKind.i64.wrap (IntKind.i64.wrap (4 : Int) - (3 : Int)) < (↑2 : Int)) ∧ (rf (AV.tup [])) ∧ (Ob.box (ppC t.e0 ++ (ppC e ++ [AV.own 1 8, AV.own 2304 8, vS t.w0, vS t.w1, vS t.r0, vS t.r1, vI t.now])) = Ob.box (ppC t'.e0 ++ (ppC t'.e1 ++ [AV.own 1 8, AV.own 2304 8, vS t'.w0, vS t'.w1, vS t'.r0, vS t'.r1, vI t'.now]))) ∧ (Ob.row 8 (List.map C13.sgD t.s0) = Ob.row 8 (List.map C13.sgD t'.s0)) ∧ (rf (Ob.gone)) ∧ (Ob.row 8 (List.map C13.sgD t.s1 ++ [D.agg (List.take 8 [D.int .u8 x.f, D.int .i64 x.p, D.int .i64 x.e, D.int .u32 x.q, D.int .u32 x.a, D.int .i64 x.w, D.sl x.k, D.str x.t])]) = Ob.row 8 (List.map C13.sgD t'.s1)) ∧ True) (h := {H := [(1, [(2, .val (.int .u8 4))])], G := [(16, gA (.tup [.d (ppD e), .d (C13.sgD x), .d (.bool true)]))]}) (subs := []) (ws := []) (ρ := []) (by kernel_rfl) ?_
 subst hz
 try simp only [List.length_map, hn]
 repeat' (with_reducible first|exact ⟨⟩|apply And.intro|(first|apply zA|apply zB|apply zC|apply zD|apply zE|apply zF|apply zG)<;>intro)
 all_goals first | exact k1 | exact k2 | exact congrArg (D.int .u8) hk | exact hn2 | exact hx2 | exact congrArg (D.int .i64) hi | exact Int.ofNat_lt.2 (get_lt hx) | rfl | omega | decide | (simp [chunk, D.cells]; done) | (rw [List.map_append]; rfl) | (simp; omega) | (rw [List.drop_zero, List.length_take]; omega) | (refine congrArg D.bool ?_; simp; omega) | skip
theorem deed4n (t t' : Tk) (d : De) (hw0 : t.w0.length + d.t.length < 1000000000) (hw1 : t.w1.length + d.t.length < 1000000000) (hn : IntKind.i64.wrap d.n = d.n) (e : Pp) (x : C13.Sg) (k1 : FnOK Tryz.prog 16 [.d (ppD t.e1)] [] (.tup [.d (ppD e), .d (C13.sgD x), .d (.bool false)]) []) (hs : t.s1.length < 1000000) (hk : d.k.tmod 9 = 4) (hz : t' = { t with e1 := e }) : FnOK Tryz.prog 9 ([.ptr 0 0, .d (deD d)]) (tkO t) (.tup []) (tkO t') := by
 refine fnOK_wp (p := (D.int .u8 (d.k.tmod (9 : Int)) = D.int .u8 4) ∧ ((9 : Int) ≠ (0 : Int)) ∧ ((0 : Int) ≤ IntKind.i64.wrap (IntKind.i64.wrap (4 : Int) - (3 : Int)) ∧ IntKind.i64.wrap (IntKind.i64.wrap (4 : Int) - (3 : Int)) < (↑2 : Int)) ∧ (FnOK Tryz.prog 16 [AV.d (ppD t.e1)] [] (AV.tup [AV.d (ppD e), AV.d (C13.sgD x), vB false]) []) ∧ ((0 : Int) ≤ IntKind.i64.wrap (IntKind.i64.wrap (4 : Int) - (3 : Int)) ∧ IntKind.i64.wrap (IntKind.i64.wrap (4 : Int) - (3 : Int)) < (↑2 : Int)) ∧ (rf (AV.tup [])) ∧ (Ob.box (ppC t.e0 ++ (ppC e ++ [AV.own 1 8, AV.own 2 8, vS t.w0, vS t.w1, vS t.r0, vS t.r1, vI t.now])) = Ob.box (ppC t'.e0 ++ (ppC t'.e1 ++ [AV.own 1 8, AV.own 2 8, vS t'.w0, vS t'.w1, vS t'.r0, vS t'.r1, vI t'.now]))) ∧ (Ob.row 8 (List.map C13.sgD t.s0) = Ob.row 8 (List.map C13.sgD t'.s0)) ∧ (Ob.row 8 (List.map C13.sgD t.s1) = Ob.row 8 (List.map C13.sgD t'.s1)) ∧ True) (h := {H := [(1, [(2, .val (.int .u8 4))])], G := [(16, gA (.tup [.d (ppD e), .d (C13.sgD x), .d (.bool false)]))]}) (subs := []) (ws := []) (ρ := []) (by kernel_rfl) ?_
 subst hz
 try simp only [List.length_map, hn]
 repeat' (with_reducible first|exact ⟨⟩|apply And.intro|(first|apply zA|apply zB|apply zC|apply zD|apply zE|apply zF|apply zG)<;>intro)
 all_goals first | exact k1 | exact k2 | exact congrArg (D.int .u8) hk | exact hn2 | exact hx2 | exact congrArg (D.int .i64) hi | exact Int.ofNat_lt.2 (get_lt hx) | rfl | omega | decide | (simp [chunk, D.cells]; done) | (rw [List.map_append]; rfl) | (simp; omega) | (rw [List.drop_zero, List.length_take]; omega) | (refine congrArg D.bool ?_; simp; omega) | skip
theorem deed5y (t t' : Tk) (d : De) (hw0 : t.w0.length + d.t.length < 1000000000) (hw1 : t.w1.length + d.t.length < 1000000000) (hn : IntKind.i64.wrap d.n = d.n) (e : Pp) (x : C13.Sg) (i : Nat) (k1 : FnOK Tryz.prog 17 [.d (ppD t.e1), .d (C13.sgD x)] [] (.d (ppD e)) []) (hs : t.s0.length < 1000000) (hl : 0 < t.s0.length) (hi : d.n.tmod t.s0.length = (i : Int)) (hx : t.s0[i]? = some x) (hk : d.k.tmod 9 = 5) (hz : t' = { t with e1 := e }) : FnOK Tryz.prog 9 ([.ptr 0 0, .d (deD d)]) (tkO t) (.tup []) (tkO t') := by
 refine fnOK_wp (p := (D.int .u8 (d.k.tmod (9 : Int)) = D.int .u8 5) ∧ ((9 : Int) ≠ (0 : Int)) ∧ ((0 : Int) ≤ IntKind.i64.wrap (IntKind.i64.wrap (5 : Int) - (5 : Int)) ∧ IntKind.i64.wrap (IntKind.i64.wrap (5 : Int) - (5 : Int)) < (↑2 : Int)) ∧ (D.bool (decide ((↑(List.map C13.sgD t.s0).length : Int) > (0 : Int))) = D.bool true) ∧ ((0 : Int) ≤ IntKind.i64.wrap ((6 : Int) - IntKind.i64.wrap (5 : Int)) ∧ IntKind.i64.wrap ((6 : Int) - IntKind.i64.wrap (5 : Int)) < (↑2 : Int)) ∧ (D.int .i64 ((IntKind.i64.wrap d.n).tmod (↑(List.map C13.sgD t.s0).length : Int)) = D.int .i64 (↑i : Int)) ∧ ((↑(List.map C13.sgD t.s0).length : Int) ≠ (0 : Int)) ∧ ((0 : Int) ≤ (↑i : Int) ∧ (↑i : Int) < (↑(List.map C13.sgD t.s0).length : Int)) ∧ (8 = 8) ∧ ((List.map C13.sgD t.s0)[(↑i : Int).toNat]? = some (C13.sgD x)) ∧ (FnOK Tryz.prog 17 [AV.d (ppD t.e1), AV.d (C13.sgD x)] [] (AV.d (ppD e)) []) ∧ ((0 : Int) ≤ IntKind.i64.wrap ((6 : Int) - IntKind.i64.wrap (5 : Int)) ∧ IntKind.i64.wrap ((6 : Int) - IntKind.i64.wrap (5 : Int)) < (↑2 : Int)) ∧ (rf (AV.tup [])) ∧ (Ob.box (ppC t.e0 ++ (ppC e ++ [AV.own 1 8, AV.own 2 8, vS t.w0, vS t.w1, vS t.r0, vS t.r1, vI t.now])) = Ob.box (ppC t'.e0 ++ (ppC t'.e1 ++ [AV.own 1 8, AV.own 2 8, vS t'.w0, vS t'.w1, vS t'.r0, vS t'.r1, vI t'.now]))) ∧ (Ob.row 8 (List.map C13.sgD t.s0) = Ob.row 8 (List.map C13.sgD t'.s0)) ∧ (Ob.row 8 (List.map C13.sgD t.s1) = Ob.row 8 (List.map C13.sgD t'.s1)) ∧ True) (h := {els := [(197, .el (C13.sgD x))], H := [(1, [(2, .val (.int .u8 5))]), (19, [(2, .val (.bool true))]), (20, [(16, .val (.int .i64 i))])], G := [(17, gA (.d (ppD e)))]}) (subs := []) (ws := []) (ρ := []) (by kernel_rfl) ?_
 have hx2 : (t.s0.map C13.sgD)[i]? = some (C13.sgD x) := el_map hx rfl
 subst hz
 try simp only [List.length_map, hn]
 repeat' (with_reducible first|exact ⟨⟩|apply And.intro|(first|apply zA|apply zB|apply zC|apply zD|apply zE|apply zF|apply zG)<;>intro)
 all_goals first | exact k1 | exact k2 | exact congrArg (D.int .u8) hk | exact hn2 | exact hx2 | exact congrArg (D.int .i64) hi | exact Int.ofNat_lt.2 (get_lt hx) | rfl | omega | decide | (simp [chunk, D.cells]; done) | (rw [List.map_append]; rfl) | (simp; omega) | (rw [List.drop_zero, List.length_take]; omega) | (refine congrArg D.bool ?_; simp; omega) | skip
theorem deed5n (t t' : Tk) (d : De) (hw0 : t.w0.length + d.t.length < 1000000000) (hw1 : t.w1.length + d.t.length < 1000000000) (hn : IntKind.i64.wrap d.n = d.n) (hl : t.s0 = []) (hk : d.k.tmod 9 = 5) (hz : t' = t) : FnOK Tryz.prog 9 ([.ptr 0 0, .d (deD d)]) (tkO t) (.tup []) (tkO t') := by
 refine fnOK_wp (p := (D.int .u8 (d.k.tmod (9 : Int)) = D.int .u8 5) ∧ ((9 : Int) ≠ (0 : Int)) ∧ ((0 : Int) ≤ IntKind.i64.wrap (IntKind.i64.wrap (5 : Int) - (5 : Int)) ∧ IntKind.i64.wrap (IntKind.i64.wrap (5 : Int) - (5 : Int)) < (↑2 : Int)) ∧ (D.bool (decide ((↑(List.map C13.sgD t.s0).length : Int) > (0 : Int))) = D.bool false) ∧ (rf (AV.tup [])) ∧ (Ob.box (ppC t.e0 ++ (ppC t.e1 ++ [AV.own 1 8, AV.own 2 8, vS t.w0, vS t.w1, vS t.r0, vS t.r1, vI t.now])) = Ob.box (ppC t'.e0 ++ (ppC t'.e1 ++ [AV.own 1 8, AV.own 2 8, vS t'.w0, vS t'.w1, vS t'.r0, vS t'.r1, vI t'.now]))) ∧ (Ob.row 8 (List.map C13.sgD t.s0) = Ob.row 8 (List.map C13.sgD t'.s0)) ∧ (Ob.row 8 (List.map C13.sgD t.s1) = Ob.row 8 (List.map C13.sgD t'.s1)) ∧ True) (h := {H := [(1, [(2, .val (.int .u8 5))]), (19, [(2, .val (.bool false))])]}) (subs := []) (ws := []) (ρ := []) (by kernel_rfl) ?_
 subst hz
 try simp only [List.length_map, hn]
 repeat' (with_reducible first|exact ⟨⟩|apply And.intro|(first|apply zA|apply zB|apply zC|apply zD|apply zE|apply zF|apply zG)<;>intro)
 all_goals first | exact k1 | exact k2 | exact congrArg (D.int .u8) hk | exact hn2 | exact hx2 | exact congrArg (D.int .i64) hi | exact Int.ofNat_lt.2 (get_lt hx) | rfl | omega | decide | (simp [chunk, D.cells]; done) | (rw [List.map_append]; rfl) | (simp; omega) | (rw [List.drop_zero, List.length_take]; omega) | (refine congrArg D.bool ?_; simp; omega) | skip
theorem deed6y (t t' : Tk) (d : De) (hw0 : t.w0.length + d.t.length < 1000000000) (hw1 : t.w1.length + d.t.length < 1000000000) (hn : IntKind.i64.wrap d.n = d.n) (e : Pp) (x : C13.Sg) (i : Nat) (k1 : FnOK Tryz.prog 17 [.d (ppD t.e0), .d (C13.sgD x)] [] (.d (ppD e)) []) (hs : t.s1.length < 1000000) (hl : 0 < t.s1.length) (hi : d.n.tmod t.s1.length = (i : Int)) (hx : t.s1[i]? = some x) (hk : d.k.tmod 9 = 6) (hz : t' = { t with e0 := e }) : FnOK Tryz.prog 9 ([.ptr 0 0, .d (deD d)]) (tkO t) (.tup []) (tkO t') := by
 refine fnOK_wp (p := (D.int .u8 (d.k.tmod (9 : Int)) = D.int .u8 6) ∧ ((9 : Int) ≠ (0 : Int)) ∧ ((0 : Int) ≤ IntKind.i64.wrap (IntKind.i64.wrap (6 : Int) - (5 : Int)) ∧ IntKind.i64.wrap (IntKind.i64.wrap (6 : Int) - (5 : Int)) < (↑2 : Int)) ∧ (D.bool (decide ((↑(List.map C13.sgD t.s1).length : Int) > (0 : Int))) = D.bool true) ∧ ((0 : Int) ≤ IntKind.i64.wrap ((6 : Int) - IntKind.i64.wrap (6 : Int)) ∧ IntKind.i64.wrap ((6 : Int) - IntKind.i64.wrap (6 : Int)) < (↑2 : Int)) ∧ (D.int .i64 ((IntKind.i64.wrap d.n).tmod (↑(List.map C13.sgD t.s1).length : Int)) = D.int .i64 (↑i : Int)) ∧ ((↑(List.map C13.sgD t.s1).length : Int) ≠ (0 : Int)) ∧ ((0 : Int) ≤ (↑i : Int) ∧ (↑i : Int) < (↑(List.map C13.sgD t.s1).length : Int)) ∧ (8 = 8) ∧ ((List.map C13.sgD t.s1)[(↑i : Int).toNat]? = some (C13.sgD x)) ∧ (FnOK Tryz.prog 17 [AV.d (ppD t.e0), AV.d (C13.sgD x)] [] (AV.d (ppD e)) []) ∧ ((0 : Int) ≤ IntKind.i64.wrap ((6 : Int) - IntKind.i64.wrap (6 : Int)) ∧ IntKind.i64.wrap ((6 : Int) - IntKind.i64.wrap (6 : Int)) < (↑2 : Int)) ∧ (rf (AV.tup [])) ∧ (Ob.box (ppC e ++ (ppC t.e1 ++ [AV.own 1 8, AV.own 2 8, vS t.w0, vS t.w1, vS t.r0, vS t.r1, vI t.now])) = Ob.box (ppC t'.e0 ++ (ppC t'.e1 ++ [AV.own 1 8, AV.own 2 8, vS t'.w0, vS t'.w1, vS t'.r0, vS t'.r1, vI t'.now]))) ∧ (Ob.row 8 (List.map C13.sgD t.s0) = Ob.row 8 (List.map C13.sgD t'.s0)) ∧ (Ob.row 8 (List.map C13.sgD t.s1) = Ob.row 8 (List.map C13.sgD t'.s1)) ∧ True) (h := {els := [(197, .el (C13.sgD x))], H := [(1, [(2, .val (.int .u8 6))]), (19, [(2, .val (.bool true))]), (20, [(16, .val (.int .i64 i))])], G := [(17, gA (.d (ppD e)))]}) (subs := []) (ws := []) (ρ := []) (by kernel_rfl) ?_
 have hx2 : (t.s1.map C13.sgD)[i]? = some (C13.sgD x) := el_map hx rfl
 subst hz
 try simp only [List.length_map, hn]
 repeat' (with_reducible first|exact ⟨⟩|apply And.intro|(first|apply zA|apply zB|apply zC|apply zD|apply zE|apply zF|apply zG)<;>intro)
 all_goals first | exact k1 | exact k2 | exact congrArg (D.int .u8) hk | exact hn2 | exact hx2 | exact congrArg (D.int .i64) hi | exact Int.ofNat_lt.2 (get_lt hx) | rfl | omega | decide | (simp [chunk, D.cells]; done) | (rw [List.map_append]; rfl) | (simp; omega) | (rw [List.drop_zero, List.length_take]; omega) | (refine congrArg D.bool ?_; simp; omega) | skip
theorem deed6n (t t' : Tk) (d : De) (hw0 : t.w0.length + d.t.length < 1000000000) (hw1 : t.w1.length + d.t.length < 1000000000) (hn : IntKind.i64.wrap d.n = d.n) (hl : t.s1 = []) (hk : d.k.tmod 9 = 6) (hz : t' = t) : FnOK Tryz.prog 9 ([.ptr 0 0, .d (deD d)]) (tkO t) (.tup []) (tkO t') := by
 refine fnOK_wp (p := (D.int .u8 (d.k.tmod (9 : Int)) = D.int .u8 6) ∧ ((9 : Int) ≠ (0 : Int)) ∧ ((0 : Int) ≤ IntKind.i64.wrap (IntKind.i64.wrap (6 : Int) - (5 : Int)) ∧ IntKind.i64.wrap (IntKind.i64.wrap (6 : Int) - (5 : Int)) < (↑2 : Int)) ∧ (D.bool (decide ((↑(List.map C13.sgD t.s1).length : Int) > (0 : Int))) = D.bool false) ∧ (rf (AV.tup [])) ∧ (Ob.box (ppC t.e0 ++ (ppC t.e1 ++ [AV.own 1 8, AV.own 2 8, vS t.w0, vS t.w1, vS t.r0, vS t.r1, vI t.now])) = Ob.box (ppC t'.e0 ++ (ppC t'.e1 ++ [AV.own 1 8, AV.own 2 8, vS t'.w0, vS t'.w1, vS t'.r0, vS t'.r1, vI t'.now]))) ∧ (Ob.row 8 (List.map C13.sgD t.s0) = Ob.row 8 (List.map C13.sgD t'.s0)) ∧ (Ob.row 8 (List.map C13.sgD t.s1) = Ob.row 8 (List.map C13.sgD t'.s1)) ∧ True) (h := {H := [(1, [(2, .val (.int .u8 6))]), (19, [(2, .val (.bool false))])]}) (subs := []) (ws := []) (ρ := []) (by kernel_rfl) ?_
 subst hz
 try simp only [List.length_map, hn]
 repeat' (with_reducible first|exact ⟨⟩|apply And.intro|(first|apply zA|apply zB|apply zC|apply zD|apply zE|apply zF|apply zG)<;>intro)
 all_goals first | exact k1 | exact k2 | exact congrArg (D.int .u8) hk | exact hn2 | exact hx2 | exact congrArg (D.int .i64) hi | exact Int.ofNat_lt.2 (get_lt hx) | rfl | omega | decide | (simp [chunk, D.cells]; done) | (rw [List.map_append]; rfl) | (simp; omega) | (rw [List.drop_zero, List.length_take]; omega) | (refine congrArg D.bool ?_; simp; omega) | skip
theorem deed7 (t t' : Tk) (d : De) (hw0 : t.w0.length + d.t.length < 1000000000) (hw1 : t.w1.length + d.t.length < 1000000000) (hn : IntKind.i64.wrap d.n = d.n) (e : Pp) (u : List UInt8) (k1 : FnOK Tryz.prog 19 [.d (ppD t.e0), .d (.int .i64 d.n)] [] (.tup [.d (ppD e), .d (.str u)]) []) (hr : t.r0.length + u.length < 1000000000) (hk : d.k.tmod 9 = 7) (hz : t' = { t with e0 := e, r0 := t.r0 ++ u }) : FnOK Tryz.prog 9 ([.ptr 0 0, .d (deD d)]) (tkO t) (.tup []) (tkO t') := by
 refine fnOK_wp (p := (D.int .u8 (d.k.tmod (9 : Int)) = D.int .u8 7) ∧ ((9 : Int) ≠ (0 : Int)) ∧ ((0 : Int) ≤ IntKind.i64.wrap (IntKind.i64.wrap (7 : Int) - (7 : Int)) ∧ IntKind.i64.wrap (IntKind.i64.wrap (7 : Int) - (7 : Int)) < (↑2 : Int)) ∧ (FnOK Tryz.prog 19 [AV.d (ppD t.e0), vI (IntKind.i64.wrap d.n)] [] (AV.tup [AV.d (ppD e), vS u]) []) ∧ ((0 : Int) ≤ IntKind.i64.wrap (IntKind.i64.wrap (7 : Int) - (7 : Int)) ∧ IntKind.i64.wrap (IntKind.i64.wrap (7 : Int) - (7 : Int)) < (↑2 : Int)) ∧ ((0 : Int) ≤ IntKind.i64.wrap (IntKind.i64.wrap (7 : Int) - (7 : Int)) ∧ IntKind.i64.wrap (IntKind.i64.wrap (7 : Int) - (7 : Int)) < (↑2 : Int)) ∧ ((↑(t.r0.length + u.length) : Int) ≤ (9223372036854775807 : Int)) ∧ ((0 : Int) ≤ IntKind.i64.wrap (IntKind.i64.wrap (7 : Int) - (7 : Int)) ∧ IntKind.i64.wrap (IntKind.i64.wrap (7 : Int) - (7 : Int)) < (↑2 : Int)) ∧ (rf (AV.tup [])) ∧ (Ob.box (ppC e ++ (ppC t.e1 ++ [AV.own 1 8, AV.own 2 8, vS t.w0, vS t.w1, vS (t.r0 ++ u), vS t.r1, vI t.now])) = Ob.box (ppC t'.e0 ++ (ppC t'.e1 ++ [AV.own 1 8, AV.own 2 8, vS t'.w0, vS t'.w1, vS t'.r0, vS t'.r1, vI t'.now]))) ∧ (Ob.row 8 (List.map C13.sgD t.s0) = Ob.row 8 (List.map C13.sgD t'.s0)) ∧ (Ob.row 8 (List.map C13.sgD t.s1) = Ob.row 8 (List.map C13.sgD t'.s1)) ∧ True) (h := {H := [(1, [(2, .val (.int .u8 7))])], G := [(19, gA (.tup [.d (ppD e), .d (.str u)]))]}) (subs := []) (ws := []) (ρ := []) (by kernel_rfl) ?_
 subst hz
 try simp only [List.length_map, hn]
 repeat' (with_reducible first|exact ⟨⟩|apply And.intro|(first|apply zA|apply zB|apply zC|apply zD|apply zE|apply zF|apply zG)<;>intro)
 all_goals first | exact k1 | exact k2 | exact congrArg (D.int .u8) hk | exact hn2 | exact hx2 | exact congrArg (D.int .i64) hi | exact Int.ofNat_lt.2 (get_lt hx) | rfl | omega | decide | (simp [chunk, D.cells]; done) | (rw [List.map_append]; rfl) | (simp; omega) | (rw [List.drop_zero, List.length_take]; omega) | (refine congrArg D.bool ?_; simp; omega) | skip
theorem deed8 (t t' : Tk) (d : De) (hw0 : t.w0.length + d.t.length < 1000000000) (hw1 : t.w1.length + d.t.length < 1000000000) (hn : IntKind.i64.wrap d.n = d.n) (e : Pp) (u : List UInt8) (k1 : FnOK Tryz.prog 19 [.d (ppD t.e1), .d (.int .i64 d.n)] [] (.tup [.d (ppD e), .d (.str u)]) []) (hr : t.r1.length + u.length < 1000000000) (hk : d.k.tmod 9 = 8) (hz : t' = { t with e1 := e, r1 := t.r1 ++ u }) : FnOK Tryz.prog 9 ([.ptr 0 0, .d (deD d)]) (tkO t) (.tup []) (tkO t') := by
 refine fnOK_wp (p := (D.int .u8 (d.k.tmod (9 : Int)) = D.int .u8 8) ∧ ((9 : Int) ≠ (0 : Int)) ∧ ((0 : Int) ≤ IntKind.i64.wrap (IntKind.i64.wrap (8 : Int) - (7 : Int)) ∧ IntKind.i64.wrap (IntKind.i64.wrap (8 : Int) - (7 : Int)) < (↑2 : Int)) ∧ (FnOK Tryz.prog 19 [AV.d (ppD t.e1), vI (IntKind.i64.wrap d.n)] [] (AV.tup [AV.d (ppD e), vS u]) []) ∧ ((0 : Int) ≤ IntKind.i64.wrap (IntKind.i64.wrap (8 : Int) - (7 : Int)) ∧ IntKind.i64.wrap (IntKind.i64.wrap (8 : Int) - (7 : Int)) < (↑2 : Int)) ∧ ((0 : Int) ≤ IntKind.i64.wrap (IntKind.i64.wrap (8 : Int) - (7 : Int)) ∧ IntKind.i64.wrap (IntKind.i64.wrap (8 : Int) - (7 : Int)) < (↑2 : Int)) ∧ ((↑(t.r1.length + u.length) : Int) ≤ (9223372036854775807 : Int)) ∧ ((0 : Int) ≤ IntKind.i64.wrap (IntKind.i64.wrap (8 : Int) - (7 : Int)) ∧ IntKind.i64.wrap (IntKind.i64.wrap (8 : Int) - (7 : Int)) < (↑2 : Int)) ∧ (rf (AV.tup [])) ∧ (Ob.box (ppC t.e0 ++ (ppC e ++ [AV.own 1 8, AV.own 2 8, vS t.w0, vS t.w1, vS t.r0, vS (t.r1 ++ u), vI t.now])) = Ob.box (ppC t'.e0 ++ (ppC t'.e1 ++ [AV.own 1 8, AV.own 2 8, vS t'.w0, vS t'.w1, vS t'.r0, vS t'.r1, vI t'.now]))) ∧ (Ob.row 8 (List.map C13.sgD t.s0) = Ob.row 8 (List.map C13.sgD t'.s0)) ∧ (Ob.row 8 (List.map C13.sgD t.s1) = Ob.row 8 (List.map C13.sgD t'.s1)) ∧ True) (h := {H := [(1, [(2, .val (.int .u8 8))])], G := [(19, gA (.tup [.d (ppD e), .d (.str u)]))]}) (subs := []) (ws := []) (ρ := []) (by kernel_rfl) ?_
 subst hz
 try simp only [List.length_map, hn]
 repeat' (with_reducible first|exact ⟨⟩|apply And.intro|(first|apply zA|apply zB|apply zC|apply zD|apply zE|apply zF|apply zG)<;>intro)
 all_goals first | exact k1 | exact k2 | exact congrArg (D.int .u8) hk | exact hn2 | exact hx2 | exact congrArg (D.int .i64) hi | exact Int.ofNat_lt.2 (get_lt hx) | rfl | omega | decide | (simp [chunk, D.cells]; done) | (rw [List.map_append]; rfl) | (simp; omega) | (rw [List.drop_zero, List.length_take]; omega) | (refine congrArg D.bool ?_; simp; omega) | skip
end Go.Proofs.YtalpfhpeaaocmaaGreat
end
section
namespace Go.Proofs.YtalpfhpeaaocmaaGreat
open Sx Go.RowKit
def I6 (l : List De) (n : Int) (j : Nat) : St := ⟨[(0, .d (.sl (l.map deD))), (5, .d (.int .i64 j))], []⟩
theorem r6 (l : List De) (hl : l.length < 1000000) (n : Int) (j : Nat) (d : De) (hn : l[j]? = some d) (h : ¬(d.t.length : Int) > 200) : Runs Tryz.prog 0 (loopN Tryz.prog 6 0) (St.as (I6 l n j) 23) (.normal) (St.as (I6 l n (j+1)) 23) := by
 refine round_wp (p := condP (decide ((↑j : Int) < (↑(List.map deD l).length : Int))) (((0 : Int) ≤ (↑j : Int)) ∧ ((List.map deD l)[(↑j : Int).toNat]? = some (D.agg [D.int .u8 d.k, D.int .u8 d.n, D.str d.t])) ∧ (D.bool (decide ((↑d.t.length : Int) > (200 : Int))) = D.bool false) ∧ (rf (vL (List.map deD l))) ∧ (vI (IntKind.i64.wrap ((↑j : Int) + (1 : Int))) = vI (↑(j + 1) : Int)) ∧ True) (False)) (h := {els := [(16, .el (deD d))], H := [(6, [(6, .val (.bool false))])]}) (subs := []) (ws := []) (ρ := []) (by kernel_rfl) ?_
 have hj := get_lt hn
 have hi := inc_i64 (j := j) (by omega)
 try rw [hi]
 simp only [List.length_map]
 refine condP_t (by rw [decide_eq_true_eq]; omega) ?_
 repeat' (with_reducible first|exact ⟨⟩|apply And.intro|(first|apply zA|apply zB|apply zC|apply zD|apply zE|apply zF|apply zG)<;>intro)
 all_goals first | exact el_map hn rfl | rfl | omega | exact dyes (by omega) | exact dno (by omega) | (exfalso; omega) | skip
theorem e6 (l : List De) (hl : l.length < 1000000) (n : Int) (j : Nat) (d : De) (hn : l[j]? = some d) (h : (d.t.length : Int) > 200) : Runs Tryz.prog 0 (loopN Tryz.prog 6 0) (St.as (I6 l n j) 23) (.ret) (St.as (⟨[(4, .d (.bool false))], []⟩) 23) := by
 refine round_wp (p := condP (decide ((↑j : Int) < (↑(List.map deD l).length : Int))) (((0 : Int) ≤ (↑j : Int)) ∧ ((List.map deD l)[(↑j : Int).toNat]? = some (D.agg [D.int .u8 d.k, D.int .u8 d.n, D.str d.t])) ∧ (D.bool (decide ((↑d.t.length : Int) > (200 : Int))) = D.bool true) ∧ (rf (vB false)) ∧ True) (False)) (h := {els := [(16, .el (deD d))], H := [(6, [(6, .val (.bool true))])]}) (subs := []) (ws := []) (ρ := []) (by kernel_rfl) ?_
 have hj := get_lt hn
 have hi := inc_i64 (j := j) (by omega)
 try rw [hi]
 simp only [List.length_map]
 refine condP_t (by rw [decide_eq_true_eq]; omega) ?_
 repeat' (with_reducible first|exact ⟨⟩|apply And.intro|(first|apply zA|apply zB|apply zC|apply zD|apply zE|apply zF|apply zG)<;>intro)
 all_goals first | exact el_map hn rfl | rfl | omega | exact dyes (by omega) | exact dno (by omega) | (exfalso; omega) | skip
theorem q6 (l : List De) (n : Int) : Runs Tryz.prog 0 (loopN Tryz.prog 6 0) (St.as (I6 l n l.length) 23) (.exit 0) (St.as (I6 l n l.length) 23) := by
 refine round_wp (p := condP (decide ((↑l.length : Int) < (↑(List.map deD l).length : Int))) (False) ((rf (vL (List.map deD l))) ∧ (rf (vI (↑l.length : Int))) ∧ True)) (h := {}) (subs := []) (ws := []) (ρ := []) (by kernel_rfl) ?_
 repeat' (with_reducible first|exact ⟨⟩|apply And.intro|(first|apply zA|apply zB|apply zC|apply zD|apply zE|apply zF|apply zG)<;>intro)
 all_goals (try simp only [List.length_map, AV.d.injEq, D.int.injEq, D.bool.injEq, D.str.injEq, D.sl.injEq, true_and, and_true, decide_eq_true_eq, decide_eq_false_iff_not, decide_eq_decide])
 all_goals (try simp only [List.length_map] at *)
 all_goals first | rfl | omega
theorem few6a (l : List De) (n : Int) (h : (l.length : Int) > n) : FnOK Tryz.prog 6 ([.d (.sl (l.map deD)), .d (.int .i64 n)]) ([]) (.d (.bool false)) ([]) := by
 refine fnOK_wp (p := (D.bool (decide ((↑(List.map deD l).length : Int) > n)) = D.bool true) ∧ (rf (vB false)) ∧ True) (h := {H := [(1, [(3, .val (.bool true))])]}) (subs := []) (ws := []) (ρ := []) (by kernel_rfl) ?_
 simp only [List.length_map]
 repeat' (with_reducible first|exact ⟨⟩|apply And.intro|(first|apply zA|apply zB|apply zC|apply zD|apply zE|apply zF|apply zG)<;>intro)
 all_goals first | rfl | exact dyes h | skip
theorem few6y (l : List De) (n : Int) (h : ¬(l.length : Int) > n) (hL : Loops Tryz.prog 0 (loopN Tryz.prog 6 0) ((I6 l n 0).as 23) (.exit 0) ((I6 l n l.length).as 23)) : FnOK Tryz.prog 6 ([.d (.sl (l.map deD)), .d (.int .i64 n)]) ([]) (.d (.bool true)) ([]) := by
 refine fnOK_wp (p := (D.bool (decide ((↑(List.map deD l).length : Int) > n)) = D.bool false) ∧ (rf (vL (List.map deD l))) ∧ (rf (vI 0)) ∧ (LoopsS Tryz.prog 0 (loopN Tryz.prog 6 0) (I6 l n 0) (Exit.exit 0) (I6 l n l.length) 23) ∧ (rf (vB true)) ∧ True) (h := {H := [(1, [(3, .val (.bool false))])]}) (subs := [⟨[], [], I6 l n 0, .exit 0, I6 l n l.length⟩]) (ws := []) (ρ := []) (by kernel_rfl) ?_
 simp only [List.length_map]
 repeat' (with_reducible first|exact ⟨⟩|apply And.intro|(first|apply zA|apply zB|apply zC|apply zD|apply zE|apply zF|apply zG)<;>intro)
 all_goals first | rfl | exact dno h | exact hL | skip
theorem few6n (l : List De) (n : Int) (h : ¬(l.length : Int) > n) (hL : Loops Tryz.prog 0 (loopN Tryz.prog 6 0) ((I6 l n 0).as 23) .ret ((⟨[(4, .d (.bool false))], []⟩ : St).as 23)) : FnOK Tryz.prog 6 ([.d (.sl (l.map deD)), .d (.int .i64 n)]) ([]) (.d (.bool false)) ([]) := by
 refine fnOK_wp (p := (D.bool (decide ((↑(List.map deD l).length : Int) > n)) = D.bool false) ∧ (rf (vL (List.map deD l))) ∧ (rf (vI 0)) ∧ (LoopsS Tryz.prog 0 (loopN Tryz.prog 6 0) (I6 l n 0) Exit.ret (St.mk [(4, vB false)] []) 23) ∧ (rf (vB false)) ∧ True) (h := {H := [(1, [(3, .val (.bool false))])]}) (subs := [⟨[], [], I6 l n 0, .ret, ⟨[(4, .d (.bool false))], []⟩⟩]) (ws := []) (ρ := []) (by kernel_rfl) ?_
 simp only [List.length_map]
 repeat' (with_reducible first|exact ⟨⟩|apply And.intro|(first|apply zA|apply zB|apply zC|apply zD|apply zE|apply zF|apply zG)<;>intro)
 all_goals first | rfl | exact dno h | exact hL | skip
def fewB (l : List De) (n : Nat) : Bool := decide (l.length ≤ n) && l.all fun d => decide (d.t.length ≤ 200)
theorem few6 (l : List De) (n : Nat) (hn : n < 1000) : FnOK Tryz.prog 6 [.d (.sl (l.map deD)), .d (.int .i64 n)] [] (.d (.bool (fewB l n))) [] := by
 by_cases h : (l.length : Int) > n
 ·have e : fewB l n = false := by unfold fewB; rw [decide_eq_false (by omega)]; rfl
  rw [e]; exact few6a l n h
 ·have hl : l.length < 1000000 := by omega
  rcases all_or (fun d : De => d.t.length ≤ 200) l with g | ⟨m, d, g1, g2, g3⟩
  ·have e : fewB l n = true := by
    unfold fewB; rw [decide_eq_true (by omega), Bool.true_and, List.all_eq_true]
    intro d hd; exact decide_eq_true (g d hd)
   rw [e]
   exact few6y l n h (loops_n (I := fun j => (I6 l n j).as 23) (by simp) l.length 0 (by omega) (fun j _ hj => r6 l hl n j _ (get_of hj) (by have := g _ (List.getElem_mem hj); omega)) (q6 l n))
  ·have hm := get_lt g1
   have e : fewB l n = false := by
    unfold fewB
    rw [Bool.and_eq_false_iff]
    refine .inr (List.all_eq_false.2 ⟨d, get_mem g1, by simpa using g2⟩)
   rw [e]
   exact few6n l n h (loops_n (I := fun j => (I6 l n j).as 23) (by simp) m 0 (by omega) (fun j _ hj => r6 l hl n j (l[j]'(by omega)) (get_of _) (by have := g3 j (l[j]'(by omega)) hj (get_of (by omega)); omega)) (e6 l hl n m d g1 (by omega)))
def t0 (a b : Int) : Tk := ⟨pOpen (pNew 2 9 a), pNew 2 9 b, [], [], [], [], [], [], 0⟩
theorem new_ok (m : Int) : C13.nChk (C13.nNew 2 9 m) = 0 := rfl
theorem begun8 (a b : Int) : FnOK Tryz.prog 8 ([.d (.agg [.int .u32 a, .int .u32 b])]) ([]) (.tup [.ptr 0 0, .d (.bool true)]) (tkO (t0 a b)) := by
 refine fnOK_wp (p := ((0 : Int) ≤ (0 : Int) ∧ (0 : Int) < (↑2 : Int)) ∧ (FnOK Tryz.prog 22 [vI 2, vI 9, vW a] [] (AV.tup [AV.d (.agg [D.int .u8 (pNew (2 : Int) (9 : Int) a).sh.g, D.int .i64 (pNew (2 : Int) (9 : Int) a).sh.p, D.int .i64 (pNew (2 : Int) (9 : Int) a).sh.e, D.int .u32 (pNew (2 : Int) (9 : Int) a).sh.m, D.int .u32 (pNew (2 : Int) (9 : Int) a).sh.h, D.int .i64 (pNew (2 : Int) (9 : Int) a).sq.b, D.str (pNew (2 : Int) (9 : Int) a).sq.d, D.int .i64 (pNew (2 : Int) (9 : Int) a).sq.n, D.sl [], D.sl [], D.int .i64 (pNew (2 : Int) (9 : Int) a).rq.b, D.str (pNew (2 : Int) (9 : Int) a).rq.r, D.sl [], D.int .i64 (pNew (2 : Int) (9 : Int) a).rt.s, D.int .i64 (pNew (2 : Int) (9 : Int) a).rt.v, D.bool false, D.int .i64 (pNew (2 : Int) (9 : Int) a).rt.h, D.int .i64 (pNew (2 : Int) (9 : Int) a).wn.w, D.int .i64 (pNew (2 : Int) (9 : Int) a).wn.t, D.int .i64 (pNew (2 : Int) (9 : Int) a).wn.p, D.int .i64 (pNew (2 : Int) (9 : Int) a).li, D.int .i64 (pNew (2 : Int) (9 : Int) a).no, D.int .i64 (pNew (2 : Int) (9 : Int) a).he, D.int .i64 (pNew (2 : Int) (9 : Int) a).nx, D.int .i64 (pNew (2 : Int) (9 : Int) a).pr, D.bool false]), vI 0]) []) ∧ ((0 : Int) ≤ (1 : Int) ∧ (1 : Int) < (↑2 : Int)) ∧ (FnOK Tryz.prog 22 [vI 2, vI 9, vW b] [] (AV.tup [AV.d (.agg [D.int .u8 (pNew (2 : Int) (9 : Int) b).sh.g, D.int .i64 (pNew (2 : Int) (9 : Int) b).sh.p, D.int .i64 (pNew (2 : Int) (9 : Int) b).sh.e, D.int .u32 (pNew (2 : Int) (9 : Int) b).sh.m, D.int .u32 (pNew (2 : Int) (9 : Int) b).sh.h, D.int .i64 (pNew (2 : Int) (9 : Int) b).sq.b, D.str (pNew (2 : Int) (9 : Int) b).sq.d, D.int .i64 (pNew (2 : Int) (9 : Int) b).sq.n, D.sl [], D.sl [], D.int .i64 (pNew (2 : Int) (9 : Int) b).rq.b, D.str (pNew (2 : Int) (9 : Int) b).rq.r, D.sl [], D.int .i64 (pNew (2 : Int) (9 : Int) b).rt.s, D.int .i64 (pNew (2 : Int) (9 : Int) b).rt.v, D.bool false, D.int .i64 (pNew (2 : Int) (9 : Int) b).rt.h, D.int .i64 (pNew (2 : Int) (9 : Int) b).wn.w, D.int .i64 (pNew (2 : Int) (9 : Int) b).wn.t, D.int .i64 (pNew (2 : Int) (9 : Int) b).wn.p, D.int .i64 (pNew (2 : Int) (9 : Int) b).li, D.int .i64 (pNew (2 : Int) (9 : Int) b).no, D.int .i64 (pNew (2 : Int) (9 : Int) b).he, D.int .i64 (pNew (2 : Int) (9 : Int) b).nx, D.int .i64 (pNew (2 : Int) (9 : Int) b).pr, D.bool false]), vI 0]) []) ∧ (FnOK Tryz.prog 23 [AV.d (.agg [D.int .u8 (pNew (2 : Int) (9 : Int) a).sh.g, D.int .i64 (pNew (2 : Int) (9 : Int) a).sh.p, D.int .i64 (pNew (2 : Int) (9 : Int) a).sh.e, D.int .u32 (pNew (2 : Int) (9 : Int) a).sh.m, D.int .u32 (pNew (2 : Int) (9 : Int) a).sh.h, D.int .i64 (pNew (2 : Int) (9 : Int) a).sq.b, D.str (pNew (2 : Int) (9 : Int) a).sq.d, D.int .i64 (pNew (2 : Int) (9 : Int) a).sq.n, D.sl [], D.sl [], D.int .i64 (pNew (2 : Int) (9 : Int) a).rq.b, D.str (pNew (2 : Int) (9 : Int) a).rq.r, D.sl [], D.int .i64 (pNew (2 : Int) (9 : Int) a).rt.s, D.int .i64 (pNew (2 : Int) (9 : Int) a).rt.v, D.bool false, D.int .i64 (pNew (2 : Int) (9 : Int) a).rt.h, D.int .i64 (pNew (2 : Int) (9 : Int) a).wn.w, D.int .i64 (pNew (2 : Int) (9 : Int) a).wn.t, D.int .i64 (pNew (2 : Int) (9 : Int) a).wn.p, D.int .i64 (pNew (2 : Int) (9 : Int) a).li, D.int .i64 (pNew (2 : Int) (9 : Int) a).no, D.int .i64 (pNew (2 : Int) (9 : Int) a).he, D.int .i64 (pNew (2 : Int) (9 : Int) a).nx, D.int .i64 (pNew (2 : Int) (9 : Int) a).pr, D.bool false])] [] (AV.d (.agg [D.int .u8 (pOpen (pNew (2 : Int) (9 : Int) a)).sh.g, D.int .i64 (pOpen (pNew (2 : Int) (9 : Int) a)).sh.p, D.int .i64 (pOpen (pNew (2 : Int) (9 : Int) a)).sh.e, D.int .u32 (pOpen (pNew (2 : Int) (9 : Int) a)).sh.m, D.int .u32 (pOpen (pNew (2 : Int) (9 : Int) a)).sh.h, D.int .i64 (pOpen (pNew (2 : Int) (9 : Int) a)).sq.b, D.str (pOpen (pNew (2 : Int) (9 : Int) a)).sq.d, D.int .i64 (pOpen (pNew (2 : Int) (9 : Int) a)).sq.n, D.sl [], D.sl [], D.int .i64 (pOpen (pNew (2 : Int) (9 : Int) a)).rq.b, D.str (pOpen (pNew (2 : Int) (9 : Int) a)).rq.r, D.sl [], D.int .i64 (pOpen (pNew (2 : Int) (9 : Int) a)).rt.s, D.int .i64 (pOpen (pNew (2 : Int) (9 : Int) a)).rt.v, D.bool false, D.int .i64 (pOpen (pNew (2 : Int) (9 : Int) a)).rt.h, D.int .i64 (pOpen (pNew (2 : Int) (9 : Int) a)).wn.w, D.int .i64 (pOpen (pNew (2 : Int) (9 : Int) a)).wn.t, D.int .i64 (pOpen (pNew (2 : Int) (9 : Int) a)).wn.p, D.int .i64 (pOpen (pNew (2 : Int) (9 : Int) a)).li, D.int .i64 (pOpen (pNew (2 : Int) (9 : Int) a)).no, D.int .i64 (pOpen (pNew (2 : Int) (9 : Int) a)).he, D.int .i64 (pOpen (pNew (2 : Int) (9 : Int) a)).nx, D.int .i64 (pOpen (pNew (2 : Int) (9 : Int) a)).pr, D.bool false])) []) ∧ ((0 : Int) ≤ (0 : Int) ∧ (0 : Int) < (↑2 : Int)) ∧ ((0 : Int) ≤ (1 : Int) ∧ (1 : Int) < (↑2 : Int)) ∧ (rf (D.bool true)) ∧ (rf (D.bool true)) ∧ (rf (D.bool true)) ∧ (rf (AV.tup [AV.ptr 1176 0, vB true])) ∧ (Ob.box [vU (pOpen (pNew (2 : Int) (9 : Int) a)).sh.g, vI (pOpen (pNew (2 : Int) (9 : Int) a)).sh.p, vI (pOpen (pNew (2 : Int) (9 : Int) a)).sh.e, vW (pOpen (pNew (2 : Int) (9 : Int) a)).sh.m, vW (pOpen (pNew (2 : Int) (9 : Int) a)).sh.h, vI (pOpen (pNew (2 : Int) (9 : Int) a)).sq.b, vS (pOpen (pNew (2 : Int) (9 : Int) a)).sq.d, vI (pOpen (pNew (2 : Int) (9 : Int) a)).sq.n, vL [], vL [], vI (pOpen (pNew (2 : Int) (9 : Int) a)).rq.b, vS (pOpen (pNew (2 : Int) (9 : Int) a)).rq.r, vL [], vI (pOpen (pNew (2 : Int) (9 : Int) a)).rt.s, vI (pOpen (pNew (2 : Int) (9 : Int) a)).rt.v, vB false, vI (pOpen (pNew (2 : Int) (9 : Int) a)).rt.h, vI (pOpen (pNew (2 : Int) (9 : Int) a)).wn.w, vI (pOpen (pNew (2 : Int) (9 : Int) a)).wn.t, vI (pOpen (pNew (2 : Int) (9 : Int) a)).wn.p, vI (pOpen (pNew (2 : Int) (9 : Int) a)).li, vI (pOpen (pNew (2 : Int) (9 : Int) a)).no, vI (pOpen (pNew (2 : Int) (9 : Int) a)).he, vI (pOpen (pNew (2 : Int) (9 : Int) a)).nx, vI (pOpen (pNew (2 : Int) (9 : Int) a)).pr, vB false, vU (pNew (2 : Int) (9 : Int) b).sh.g, vI (pNew (2 : Int) (9 : Int) b).sh.p, vI (pNew (2 : Int) (9 : Int) b).sh.e, vW (pNew (2 : Int) (9 : Int) b).sh.m, vW (pNew (2 : Int) (9 : Int) b).sh.h, vI (pNew (2 : Int) (9 : Int) b).sq.b, vS (pNew (2 : Int) (9 : Int) b).sq.d, vI (pNew (2 : Int) (9 : Int) b).sq.n, vL [], vL [], vI (pNew (2 : Int) (9 : Int) b).rq.b, vS (pNew (2 : Int) (9 : Int) b).rq.r, vL [], vI (pNew (2 : Int) (9 : Int) b).rt.s, vI (pNew (2 : Int) (9 : Int) b).rt.v, vB false, vI (pNew (2 : Int) (9 : Int) b).rt.h, vI (pNew (2 : Int) (9 : Int) b).wn.w, vI (pNew (2 : Int) (9 : Int) b).wn.t, vI (pNew (2 : Int) (9 : Int) b).wn.p, vI (pNew (2 : Int) (9 : Int) b).li, vI (pNew (2 : Int) (9 : Int) b).no, vI (pNew (2 : Int) (9 : Int) b).he, vI (pNew (2 : Int) (9 : Int) b).nx, vI (pNew (2 : Int) (9 : Int) b).pr, vB false, AV.own 500 8, AV.own 501 8, vS [], vS [], vS [], vS [], vI 0] = Ob.box [vU (t0 a b).e0.sh.g, vI (t0 a b).e0.sh.p, vI (t0 a b).e0.sh.e, vW (t0 a b).e0.sh.m, vW (t0 a b).e0.sh.h, vI (t0 a b).e0.sq.b, vS (t0 a b).e0.sq.d, vI (t0 a b).e0.sq.n, vL [], vL [], vI (t0 a b).e0.rq.b, vS (t0 a b).e0.rq.r, vL [], vI (t0 a b).e0.rt.s, vI (t0 a b).e0.rt.v, vB false, vI (t0 a b).e0.rt.h, vI (t0 a b).e0.wn.w, vI (t0 a b).e0.wn.t, vI (t0 a b).e0.wn.p, vI (t0 a b).e0.li, vI (t0 a b).e0.no, vI (t0 a b).e0.he, vI (t0 a b).e0.nx, vI (t0 a b).e0.pr, vB false, vU (t0 a b).e1.sh.g, vI (t0 a b).e1.sh.p, vI (t0 a b).e1.sh.e, vW (t0 a b).e1.sh.m, vW (t0 a b).e1.sh.h, vI (t0 a b).e1.sq.b, vS (t0 a b).e1.sq.d, vI (t0 a b).e1.sq.n, vL [], vL [], vI (t0 a b).e1.rq.b, vS (t0 a b).e1.rq.r, vL [], vI (t0 a b).e1.rt.s, vI (t0 a b).e1.rt.v, vB false, vI (t0 a b).e1.rt.h, vI (t0 a b).e1.wn.w, vI (t0 a b).e1.wn.t, vI (t0 a b).e1.wn.p, vI (t0 a b).e1.li, vI (t0 a b).e1.no, vI (t0 a b).e1.he, vI (t0 a b).e1.nx, vI (t0 a b).e1.pr, vB false, AV.own 500 8, AV.own 501 8, vS (t0 a b).w0, vS (t0 a b).w1, vS (t0 a b).r0, vS (t0 a b).r1, vI (t0 a b).now]) ∧ (rf (Ob.row 8 [])) ∧ (rf (Ob.row 8 [])) ∧ True) (h := {els := [(11, .n)], H := [(1, [(2, .call [] (.tup [.d (ppD (pNew 2 9 a)), .d (.int .i64 0)]) [])]), (2, [(2, .call [] (.tup [.d (ppD (pNew 2 9 b)), .d (.int .i64 0)]) [])]), (4, [(3, .call [] (.d (ppD (pOpen (pNew 2 9 a)))) [])]), (5, [(2, .val (.bool true)), (5, .val (.bool true))])], W := [(5, [.nilcell 1176 52 500 8, .nilcell 1176 53 501 8])]}) (subs := []) (ws := []) (ρ := []) (by kernel_rfl) ?_
 have k1 := new22 2 9 a (new_ok a)
 have k2 := new22 2 9 b (new_ok b)
 have k3 := open23 (pNew 2 9 a)
 repeat' (with_reducible first|exact ⟨⟩|apply And.intro|(first|apply zA|apply zB|apply zC|apply zD|apply zE|apply zF|apply zG)<;>intro)
 all_goals first | exact k1 | exact k2 | exact k3 | rfl | decide | skip
end Go.Proofs.YtalpfhpeaaocmaaGreat
end
section
namespace Go.Proofs.YtalpfhpeaaocmaaGreat
open Sx Go.RowKit
def nth (l : List C13.Sg) (n : Int) : Option C13.Sg := l[(n.toNat % l.length)]?
def tDeed (t : Tk) (d : De) : Tk :=
 if d.k.tmod 9 = 0 then { t with e0 := (pWrite t.e0 d.t).1, w0 := t.w0 ++ d.t.take (max 0 (min (pWrite t.e0 d.t).2 d.t.length)).toNat }
 else if d.k.tmod 9 = 1 then { t with e1 := (pWrite t.e1 d.t).1, w1 := t.w1 ++ d.t.take (max 0 (min (pWrite t.e1 d.t).2 d.t.length)).toNat }
 else if d.k.tmod 9 = 2 then { t with e0 := pTick t.e0 (IntKind.i64.wrap (t.now + 1)), e1 := pTick t.e1 (IntKind.i64.wrap (t.now + 1)), now := IntKind.i64.wrap (t.now + 1) }
 else if d.k.tmod 9 = 3 then { t with e0 := (pOut t.e0).1, s0 := if (pOut t.e0).2.2 = true then t.s0 ++ [(pOut t.e0).2.1] else t.s0 }
 else if d.k.tmod 9 = 4 then { t with e1 := (pOut t.e1).1, s1 := if (pOut t.e1).2.2 = true then t.s1 ++ [(pOut t.e1).2.1] else t.s1 }
 else if d.k.tmod 9 = 5 then (match nth t.s0 d.n with | some x => { t with e1 := pOn t.e1 x } | none => t)
 else if d.k.tmod 9 = 6 then (match nth t.s1 d.n with | some x => { t with e0 := pOn t.e0 x } | none => t)
 else if d.k.tmod 9 = 7 then { t with e0 := (pRead t.e0 d.n).1, r0 := t.r0 ++ (pRead t.e0 d.n).2 }
 else { t with e1 := (pRead t.e1 d.n).1, r1 := t.r1 ++ (pRead t.e1 d.n).2 }
structure TI (m0 m1 : Int) (t : Tk) (j : Nat) : Prop where
 e0 : EndI t.e0 m0 m1 t.w0
 e1 : EndI t.e1 m1 m0 t.w1
 r0 : C12.RI t.w1 t.e0.rq t.r0
 r1 : C12.RI t.w0 t.e1.rq t.r1
 g0 : ∀ x ∈ t.s0, SegI m0 t.w0 x
 g1 : ∀ x ∈ t.s1, SegI m1 t.w1 x
 wl : t.w0.length ≤ 200 * j ∧ t.w1.length ≤ 200 * j
 sl : t.s0.length ≤ j ∧ t.s1.length ≤ j
 nw : 0 ≤ t.now ∧ t.now ≤ j
theorem nth_mem {l : List C13.Sg} {n : Int} {x : C13.Sg} (h : nth l n = some x) : x ∈ l := List.mem_of_getElem? h
theorem ri_len {w : List UInt8} {q : C12.Rq} {r : List UInt8} (h : C12.RI w q r) : r.length ≤ w.length := by
 have := congrArg List.length h.oe
 rw [List.length_take] at this
 omega
theorem ri_whole {w : List UInt8} {q : C12.Rq} {r : List UInt8} (h : C12.RI w q r) : w.take r.length = r := h.oe.symm
theorem ti_deed {m0 m1 : Int} {t : Tk} {j : Nat} (h : TI m0 m1 t j) (hj : j < 400) (d : De) (hd : d.t.length ≤ 200) : TI m0 m1 (tDeed t d) (j + 1) := by
 obtain ⟨e0, e1, r0, r1, g0, g1, wl, sl, nw⟩ := h
 have wr : IntKind.i64.wrap (t.now + 1) = t.now + 1 := by rw [IntKind.wrap_i64]; omega
 have tk : ∀ n : Int, (d.t.take (max 0 (min n (d.t.length : Int))).toNat).length ≤ 200 := fun n => by rw [List.length_take]; omega
 unfold tDeed
 split
 ·obtain ⟨a, b⟩ := endI_write e0 (t := d.t) (by omega)
  have := tk (pWrite t.e0 d.t).2
  exact ⟨a, e1, by show C12.RI _ (pWrite t.e0 d.t).1.rq _; rw [b]; exact r0, r1.grow _, fun x hx => (g0 x hx).grow _, g1, by simp only [List.length_append]; omega, by show t.s0.length ≤ _ ∧ t.s1.length ≤ _; omega, by show 0 ≤ t.now ∧ t.now ≤ _; omega⟩
 ·split
  ·obtain ⟨a, b⟩ := endI_write e1 (t := d.t) (by omega)
   have := tk (pWrite t.e1 d.t).2
   exact ⟨e0, a, r0.grow _, by show C12.RI _ (pWrite t.e1 d.t).1.rq _; rw [b]; exact r1, g0, fun x hx => (g1 x hx).grow _, by simp only [List.length_append]; omega, by show t.s0.length ≤ _ ∧ t.s1.length ≤ _; omega, by show 0 ≤ t.now ∧ t.now ≤ _; omega⟩
  ·split
   ·rw [wr]
    obtain ⟨a0, b0⟩ := endI_tick e0 (now := t.now + 1) (by omega)
    obtain ⟨a1, b1⟩ := endI_tick e1 (now := t.now + 1) (by omega)
    exact ⟨a0, a1, by show C12.RI _ (pTick t.e0 (t.now + 1)).rq _; rw [b0]; exact r0, by show C12.RI _ (pTick t.e1 (t.now + 1)).rq _; rw [b1]; exact r1, g0, g1, by show t.w0.length ≤ _ ∧ t.w1.length ≤ _; omega, by show t.s0.length ≤ _ ∧ t.s1.length ≤ _; omega, by show 0 ≤ t.now + 1 ∧ t.now + 1 ≤ _; omega⟩
   ·split
    ·obtain ⟨a, b, c⟩ := endI_out e0 r0.ok
     refine ⟨a, e1, by show C12.RI _ (pOut t.e0).1.rq _; rw [b]; exact r0, r1, fun x hx => ?_, g1, by show t.w0.length ≤ _ ∧ t.w1.length ≤ _; omega, ?_, by show 0 ≤ t.now ∧ t.now ≤ _; omega⟩
     ·dsimp only at hx
      split at hx
      ·next hb =>
       rcases List.mem_append.1 hx with hx | hx
       ·exact g0 x hx
       ·rw [List.mem_singleton.1 hx]; exact c hb
      ·exact g0 x hx
     ·dsimp only
      split
      ·rw [List.length_append, List.length_singleton]; omega
      ·omega
    ·split
     ·obtain ⟨a, b, c⟩ := endI_out e1 r1.ok
      refine ⟨e0, a, r0, by show C12.RI _ (pOut t.e1).1.rq _; rw [b]; exact r1, g0, fun x hx => ?_, by show t.w0.length ≤ _ ∧ t.w1.length ≤ _; omega, ?_, by show 0 ≤ t.now ∧ t.now ≤ _; omega⟩
      ·dsimp only at hx
       split at hx
       ·next hb =>
        rcases List.mem_append.1 hx with hx | hx
        ·exact g1 x hx
        ·rw [List.mem_singleton.1 hx]; exact c hb
       ·exact g1 x hx
      ·dsimp only
       split
       ·rw [List.length_append, List.length_singleton]; omega
       ·omega
     ·have same : TI m0 m1 t (j + 1) := ⟨e0, e1, r0, r1, g0, g1, by omega, by omega, by omega⟩
      split
      ·split
       ·next x hx =>
        obtain ⟨a, b⟩ := endI_on e1 e0.mb (g0 x (nth_mem hx)) r1 (by omega)
        exact ⟨e0, a, r0, b, g0, g1, by show t.w0.length ≤ _ ∧ t.w1.length ≤ _; omega, by show t.s0.length ≤ _ ∧ t.s1.length ≤ _; omega, by show 0 ≤ t.now ∧ t.now ≤ _; omega⟩
       ·exact same
      ·split
       ·split
        ·next x hx =>
         obtain ⟨a, b⟩ := endI_on e0 e1.mb (g1 x (nth_mem hx)) r0 (by omega)
         exact ⟨a, e1, b, r1, g0, g1, by show t.w0.length ≤ _ ∧ t.w1.length ≤ _; omega, by show t.s0.length ≤ _ ∧ t.s1.length ≤ _; omega, by show 0 ≤ t.now ∧ t.now ≤ _; omega⟩
        ·exact same
       ·split
        ·obtain ⟨a, b⟩ := endI_read e0 r0 d.n
         exact ⟨a, e1, b, r1, g0, g1, by show t.w0.length ≤ _ ∧ t.w1.length ≤ _; omega, by show t.s0.length ≤ _ ∧ t.s1.length ≤ _; omega, by show 0 ≤ t.now ∧ t.now ≤ _; omega⟩
        ·obtain ⟨a, b⟩ := endI_read e1 r1 d.n
         exact ⟨e0, a, r0, b, g0, g1, by show t.w0.length ≤ _ ∧ t.w1.length ≤ _; omega, by show t.s0.length ≤ _ ∧ t.s1.length ≤ _; omega, by show 0 ≤ t.now ∧ t.now ≤ _; omega⟩
theorem ti_zero {a b : Int} (ha : 0 ≤ a ∧ a < 4294967296) (hb : 0 ≤ b ∧ b < 4294967296) : TI a b (t0 a b) 0 := by
 have sh : ∀ m o, ShI (C13.nNew 2 9 m) m o := fun m o => ⟨by show 0 ≤ (0 : Int) ∧ (0 : Int) ≤ 4; decide, rfl, rfl, rfl, fun _ => rfl, fun g => (by have g : (0 : Int) = 2 ∨ (0 : Int) = 3 := g; omega), by show 0 ≤ (0 : Int) ∧ (0 : Int) < 4294967296; decide⟩
 have en : ∀ m o, 0 ≤ m ∧ m < 4294967296 → EndI (pNew 2 9 m) m o [] := fun m o hm => ⟨sh m o, hm, C11.ki0, by decide, (by show C08.rCheck C08.rNew = 0; decide), C10.new_is, by show 0 ≤ (4096 : Int) ∧ (4096 : Int) ≤ 200000; decide, by show 0 ≤ (0 : Int) ∧ (0 : Int) ≤ 1000; decide⟩
 refine ⟨?_, en b a hb, C12.RI.zero, C12.RI.zero, fun x hx => (by cases hx), fun x hx => (by cases hx), (by show 0 ≤ 200 * 0 ∧ 0 ≤ 200 * 0; decide), (by show 0 ≤ 0 ∧ 0 ≤ 0; decide), by show 0 ≤ (0 : Int) ∧ (0 : Int) ≤ (0 : Int); decide⟩
 have h := en a b ha
 have e : t0 a b = ⟨{ pNew 2 9 a with sh := C13.nAt (C13.nNew 2 9 a) 1 }, pNew 2 9 b, [], [], [], [], [], [], 0⟩ := rfl
 rw [e]
 exact ⟨h.sh.at (by decide) (fun _ => rfl) (fun g => by omega), h.mb, h.sq, h.wl, h.rt, h.wn, h.li, h.no⟩
theorem endI_r {s : Pp} {m o : Int} {w w' r : List UInt8} (h : EndI s m o w) (hr : C12.RI w' s.rq r) : PpR s := by
 have h1 := h.sq.len
 have h2 := C12.ok_held hr.ok
 have h3 := hr.ok.b
 have h4 := h.wn
 have h5 := h.li
 unfold C10.aOk at h4
 exact ⟨h.sq.sq, by omega, by omega, C12.ok_rb2 hr.ok, by omega, by omega, by omega, by omega, by omega⟩
theorem segI_r {m : Int} {w : List UInt8} {x : C13.Sg} (h : SegI m w x) (hw : w.length < 50000) : SgR x := by
 obtain ⟨bs, h1, h2⟩ := h.k
 have hf := h.f
 refine ⟨by omega, ⟨bs, h1, by omega⟩, ?_⟩
 rcases hf with g | g | g | g
 ·rw [(h.syn (.inl g)).2]; decide
 ·rw [(h.syn (.inr g)).2]; decide
 ·obtain ⟨a, -, k, -⟩ := h.dat (.inl g); omega
 ·obtain ⟨a, -, k, -⟩ := h.dat (.inr g); omega
theorem deed9 {m0 m1 : Int} {t : Tk} {j : Nat} (h : TI m0 m1 t j) (hj : j < 200) (d : De) (hd : d.t.length ≤ 200) (hk : 0 ≤ d.k ∧ d.k < 256) (hn : 0 ≤ d.n ∧ d.n < 256) :
  FnOK Tryz.prog 9 [.ptr 0 0, .d (deD d)] (tkO t) (.tup []) (tkO (tDeed t d)) ∨ FnOK Tryz.prog 9 [.ptr 0 0, .d (deD d)] (tkO t) (.tup []) (tkP (tDeed t d)) ∨ FnOK Tryz.prog 9 [.ptr 0 0, .d (deD d)] (tkO t) (.tup []) (tkQ (tDeed t d)) := by
 obtain ⟨e0, e1, r0, r1, g0, g1, wl, sl, nw⟩ := h
 have p0 := endI_r e0 r0
 have p1 := endI_r e1 r1
 have q0 := fun x hx => segI_r (g0 x hx) (by omega)
 have q1 := fun x hx => segI_r (g1 x hx) (by omega)
 have hw : IntKind.i64.wrap d.n = d.n := by rw [IntKind.wrap_i64]; omega
 have h9 : d.k.tmod 9 = d.k % 9 := Int.tmod_eq_emod_of_nonneg hk.1
 have l0 : t.w0.length + d.t.length < 1000000000 := by omega
 have l1 : t.w1.length + d.t.length < 1000000000 := by omega
 have rl0 := ri_len r0
 have rl1 := ri_len r1
 have rd : ∀ s : Pp, s.rq.r.length ≤ 4096 → (pRead s d.n).2.length ≤ 4096 := fun s hs => by
  show (C12.rRead s.rq d.n).2.length ≤ _
  unfold C12.rRead
  split
  ·simp
  ·show (s.rq.r.take _).length ≤ _
   rw [List.length_take]; omega
 have idx : ∀ l : List C13.Sg, 0 < l.length → d.n.tmod l.length = ((d.n.toNat % l.length : Nat) : Int) := fun l hl => by
  rw [Int.tmod_eq_emod_of_nonneg hn.1]
  obtain ⟨n, e⟩ := Int.eq_ofNat_of_zero_le hn.1
  rw [e, Int.toNat_natCast]
  simp
 have get : ∀ l : List C13.Sg, 0 < l.length → ∃ x, nth l d.n = some x := fun l hl => by
  have : d.n.toNat % l.length < l.length := Nat.mod_lt _ hl
  exact ⟨_, List.getElem?_eq_getElem this⟩
 unfold tDeed
 by_cases h0 : d.k.tmod 9 = 0
 ·rw [if_pos h0]
  exact .inl (deed0 t _ d l0 l1 hw _ _ (write15 t.e0 p0.sq d.t (by omega)) h0 rfl)
 rw [if_neg h0]
 by_cases h1 : d.k.tmod 9 = 1
 ·rw [if_pos h1]
  exact .inl (deed1 t _ d l0 l1 hw _ _ (write15 t.e1 p1.sq d.t (by omega)) h1 rfl)
 rw [if_neg h1]
 by_cases h2 : d.k.tmod 9 = 2
 ·rw [if_pos h2]
  exact .inl (deed2 t _ d l0 l1 hw _ _ _ (tick24 t.e0 p0.sq _) (tick24 t.e1 p1.sq _) rfl h2 rfl)
 rw [if_neg h2]
 by_cases h3 : d.k.tmod 9 = 3
 ·rw [if_pos h3]
  have k := out16 t.e0 p0
  cases hb : (pOut t.e0).2.2
  ·rw [hb] at k
   rw [if_neg (by simp)]
   exact .inl (deed3n t _ d l0 l1 hw _ _ k (by omega) h3 rfl)
  ·rw [hb] at k
   rw [if_pos rfl]
   exact .inr (.inl (deed3y t _ d l0 l1 hw _ _ k (by omega) h3 rfl))
 rw [if_neg h3]
 by_cases h4 : d.k.tmod 9 = 4
 ·rw [if_pos h4]
  have k := out16 t.e1 p1
  cases hb : (pOut t.e1).2.2
  ·rw [hb] at k
   rw [if_neg (by simp)]
   exact .inl (deed4n t _ d l0 l1 hw _ _ k (by omega) h4 rfl)
  ·rw [hb] at k
   rw [if_pos rfl]
   exact .inr (.inr (deed4y t _ d l0 l1 hw _ _ k (by omega) h4 rfl))
 rw [if_neg h4]
 by_cases h5 : d.k.tmod 9 = 5
 ·rw [if_pos h5]
  by_cases hl : 0 < t.s0.length
  ·obtain ⟨x, hx⟩ := get t.s0 hl
   rw [hx]
   exact .inl (deed5y t _ d l0 l1 hw _ x _ (on17 t.e1 p1 x (q0 x (nth_mem hx))) (by omega) hl (idx _ hl) hx h5 rfl)
  ·have he : t.s0 = [] := List.length_eq_zero_iff.1 (by omega)
   have hx : nth t.s0 d.n = none := by rw [he]; rfl
   rw [hx]
   exact .inl (deed5n t _ d l0 l1 hw he h5 rfl)
 rw [if_neg h5]
 by_cases h6 : d.k.tmod 9 = 6
 ·rw [if_pos h6]
  by_cases hl : 0 < t.s1.length
  ·obtain ⟨x, hx⟩ := get t.s1 hl
   rw [hx]
   exact .inl (deed6y t _ d l0 l1 hw _ x _ (on17 t.e0 p0 x (q1 x (nth_mem hx))) (by omega) hl (idx _ hl) hx h6 rfl)
  ·have he : t.s1 = [] := List.length_eq_zero_iff.1 (by omega)
   have hx : nth t.s1 d.n = none := by rw [he]; rfl
   rw [hx]
   exact .inl (deed6n t _ d l0 l1 hw he h6 rfl)
 rw [if_neg h6]
 have b0 := r0.ok.b
 have b1 := r1.ok.b
 by_cases h7 : d.k.tmod 9 = 7
 ·rw [if_pos h7]
  exact .inl (deed7 t _ d l0 l1 hw _ _ (read19 t.e0 p0.rq p0.rb (by have := p0.rp; omega) d.n) (by have := rd t.e0 (by omega); omega) h7 rfl)
 rw [if_neg h7]
 exact .inl (deed8 t _ d l0 l1 hw _ _ (read19 t.e1 p1.rq p1.rb (by have := p1.rp; omega) d.n) (by have := rd t.e1 (by omega); omega) (by omega) rfl)
end Go.Proofs.YtalpfhpeaaocmaaGreat
end
section
namespace Go.Proofs.YtalpfhpeaaocmaaGreat
open Sx Go.RowKit
structure EndT (s : Pp) (now : Int) : Prop where
 no : s.no = now
 he : 0 ≤ s.he ∧ s.he ≤ now
 pr : 0 ≤ s.pr ∧ s.pr ≤ now
 nx : s.nx ≤ now + 64
 fl : ∀ c ∈ s.sq.fl, c.s ≤ now
section
variable {s : Pp} {m o now : Int} {w : List UInt8} {g : C13.Sg}
theorem endT_write (h : EndT s now) (t : List UInt8) : EndT (pWrite s t).1 now ∧ (pWrite s t).1.sh = s.sh ∧ (pWrite s t).1.nx = s.nx := by
 unfold pWrite
 split
 ·exact ⟨h, rfl, rfl⟩
 ·exact ⟨⟨h.no, h.he, h.pr, h.nx, by rw [(rWrite_same s.sq t).2.2.2]; exact h.fl⟩, rfl, rfl⟩
theorem endT_read (h : EndT s now) (n : Int) : EndT (pRead s n).1 now ∧ (pRead s n).1.sh = s.sh ∧ (pRead s n).1.nx = s.nx := ⟨⟨h.no, h.he, h.pr, h.nx, h.fl⟩, rfl, rfl⟩
theorem endT_out (h : EndT s now) (k : EndI s m o w) : EndT (pOut s).1 now ∧ (pOut s).1.sh = s.sh := by
 have hno := k.no
 have hn := h.no
 unfold pOut
 split
 ·unfold pSpeak
  split
  ·next ht =>
   refine ⟨⟨h.no, h.he, h.pr, h.nx, ?_⟩, rfl⟩
   rcases C11.pick_v k.sq s.no s.wn.w s.li with ⟨-, q⟩ | q
   ·exact absurd q ht
   ·intro c hc
    rcases q.fs c hc with ⟨y, hy, e⟩ | e
    ·rw [e]; exact h.fl y hy
    ·omega
  ·split
   ·exact ⟨h, rfl⟩
   ·split
    ·exact ⟨⟨h.no, h.he, h.pr, h.nx, h.fl⟩, rfl⟩
    ·exact ⟨⟨h.no, h.he, by show 0 ≤ s.no ∧ s.no ≤ now; omega, h.nx, h.fl⟩, rfl⟩
 ·unfold pGreet
  split
  ·exact ⟨h, rfl⟩
  ·have hw := C08.wait_bd s.rt
   have e : IntKind.i64.wrap (s.no + C08.rWait s.rt) = s.no + C08.rWait s.rt := by rw [IntKind.wrap_i64]; omega
   exact ⟨⟨h.no, h.he, h.pr, by show IntKind.i64.wrap _ ≤ _; rw [e]; omega, h.fl⟩, rfl⟩
theorem took_same (s : Pp) (g : C13.Sg) : (pTook s g).sh = s.sh ∧ (pTook s g).no = s.no ∧ (pTook s g).he = s.he ∧ (pTook s g).nx = s.nx ∧ (pTook s g).pr = s.pr ∧ (pTook s g).sq = (pA s g).sq ∧ (pTook s g).li = (pA s g).li ∧ (pTook s g).wn = (pA s g).wn ∧ (pTook s g).du = ((C13.hasB g.f 1 || (decide (g.t ≠ []) || C13.hasB g.f 16)) || s.du) := by
 have hA : (pA s g).sh = s.sh ∧ (pA s g).no = s.no ∧ (pA s g).he = s.he ∧ (pA s g).nx = s.nx ∧ (pA s g).pr = s.pr ∧ (pA s g).du = s.du := by
  unfold pA
  split <;> exact ⟨rfl, rfl, rfl, rfl, rfl, rfl⟩
 obtain ⟨a1, a2, a3, a4, a5, a6⟩ := hA
 rw [pTook_eq]
 exact ⟨a1, a2, a3, a4, a5, rfl, rfl, rfl, by show (_ || (pA s g).du) = _; rw [a6]⟩
theorem pA_fl (k : C11.KI s.sq w) : ∀ c ∈ (pA s g).sq.fl, ∃ c' ∈ s.sq.fl, c'.f ≤ c.f ∧ c.t ≤ c'.t ∧ c.s = c'.s ∧ (c.l = false → c'.l = false) := by
 unfold pA
 split
 ·exact (C11.ack_v k _ _ _).fl
 ·exact fun c hc => ⟨c, hc, Int.le_refl _, Int.le_refl _, rfl, id⟩
/-- What an end is behind a segment. -/
theorem on_same (s : Pp) (g : C13.Sg) : ((pOn s g).sh = s.sh ∨ (pOn s g).sh = C13.nOn s.sh g) ∧ (pOn s g).no = s.no ∧ ((pOn s g).he = s.he ∨ (pOn s g).he = s.no) ∧ (pOn s g).nx = s.nx ∧ (pOn s g).pr = s.pr ∧ (s.du = true → (pOn s g).du = true) := by
 unfold pOn
 split
 ·exact ⟨.inl rfl, rfl, .inl rfl, rfl, rfl, id⟩
 ·split
  ·obtain ⟨a1, a2, a3, a4, a5, -, -, -, a6⟩ := took_same { s with he := s.no, sh := C13.nOn s.sh g } g
   exact ⟨.inr a1, a2, .inr a3, a4, a5, fun q => by rw [a6]; show (_ || s.du) = true; rw [q, Bool.or_true]⟩
  ·exact ⟨.inr rfl, rfl, .inr rfl, rfl, rfl, id⟩
theorem on_fl (k : C11.KI s.sq w) : ∀ c ∈ (pOn s g).sq.fl, ∃ c' ∈ s.sq.fl, c'.f ≤ c.f ∧ c.t ≤ c'.t ∧ c.s = c'.s ∧ (c.l = false → c'.l = false) := by
 unfold pOn
 split
 ·exact fun c hc => ⟨c, hc, Int.le_refl _, Int.le_refl _, rfl, id⟩
 ·split
  ·rw [(took_same { s with he := s.no, sh := C13.nOn s.sh g } g).2.2.2.2.2.1]
   exact pA_fl (s := { s with he := s.no, sh := C13.nOn s.sh g }) k
  ·exact fun c hc => ⟨c, hc, Int.le_refl _, Int.le_refl _, rfl, id⟩
theorem endT_on (h : EndT s now) (k : C11.KI s.sq w) : EndT (pOn s g) now := by
 obtain ⟨-, a2, a3, a4, a5, -⟩ := on_same s g
 have h1 := h.no
 have h2 := h.he
 refine ⟨by rw [a2]; exact h1, ?_, by rw [a5]; exact h.pr, by rw [a4]; exact h.nx, fun c hc => ?_⟩
 ·rcases a3 with e | e <;> rw [e] <;> omega
 ·obtain ⟨c', h', -, -, e, -⟩ := on_fl k c hc
  rw [e]; exact h.fl c' h'
/-- Time goes on; nobody dies who heard of late. -/
theorem endT_tick (h : EndT s now) (k : C11.KI s.sq w) (hn : now < 1000) (hh : now + 1 - s.he < 200) : EndT (pTick s (now + 1)) (now + 1) ∧ (pTick s (now + 1)).sh = s.sh ∧ (pTick s (now + 1)).he = s.he ∧ (pTick s (now + 1)).nx = s.nx ∧ (pTick s (now + 1)).pr = s.pr ∧ (pTick s (now + 1)).du = s.du ∧ (pTick s (now + 1)).rq = s.rq ∧
  ((pTick s (now + 1)).sq = (C11.rExpire s.sq).1 ∨ (pTick s (now + 1)).sq = s.sq ∧ (s.sh.g = 4 ∨ s.sh.g = 0 ∨ ∀ c ∈ s.sq.fl, c.l = false → now + 1 - 64 < c.s)) := by
 have h1 := h.no
 have h2 := h.he
 have h3 := h.pr
 have h4 := h.nx
 have e : IntKind.i64.wrap (now + 1 - s.he) = now + 1 - s.he := by rw [IntKind.wrap_i64]; omega
 have mk : ∀ sq, (∀ c ∈ sq.fl, c.s ≤ now) → ∀ rt wn, EndT { s with no := now + 1, sq := sq, rt := rt, wn := wn } (now + 1) := fun sq hq rt wn =>
  ⟨rfl, by show 0 ≤ s.he ∧ s.he ≤ now + 1; omega, by show 0 ≤ s.pr ∧ s.pr ≤ now + 1; omega, by show s.nx ≤ now + 1 + 64; omega, fun c hc => by have := hq c hc; omega⟩
 have me := mk s.sq h.fl s.rt s.wn
 unfold pTick
 rw [if_neg (by omega)]
 split
 ·next hg => exact ⟨me, rfl, rfl, rfl, rfl, rfl, rfl, .inr ⟨rfl, hg.elim .inl fun q => .inr (.inl q)⟩⟩
 ·rw [if_neg (by show ¬(IntKind.i64.wrap (now + 1 - s.he) ≥ 200); rw [e]; omega)]
  split
  ·refine ⟨mk _ (fun c hc => ?_) _ _, rfl, rfl, rfl, rfl, rfl, rfl, .inl rfl⟩
   obtain ⟨c', h', rfl⟩ := List.mem_map.1 hc
   exact h.fl c' h'
  ·next hq =>
   refine ⟨me, rfl, rfl, rfl, rfl, rfl, rfl, .inr ⟨rfl, .inr (.inr fun c hc hl => ?_)⟩⟩
   obtain ⟨q1, q2⟩ := C11.oldest_le hc hl
   have hw := C08.wait_bd s.rt
   have hs := h.fl c hc
   rcases Int.lt_or_le (now + 1 - 64) c.s with z | z
   ·exact z
   ·exfalso
    refine hq ⟨q1, ?_⟩
    have q0 := C11.oldest_0 k
    have e2 : IntKind.i64.wrap (now + 1 - (C11.rOldest s.sq).1) = now + 1 - (C11.rOldest s.sq).1 := by rw [IntKind.wrap_i64]; omega
    rw [e2]; omega
end
end Go.Proofs.YtalpfhpeaaocmaaGreat
end
section
namespace Go.Proofs.YtalpfhpeaaocmaaGreat
open Sx Go.RowKit
structure Hs (a b : Pp) : Prop where
 k0 : a.sh.g = 1 ∨ a.sh.g = 3
 k1 : b.sh.g = 0 ∨ b.sh.g = 2 ∨ b.sh.g = 3
 k2 : a.sh.g = 3 → b.sh.g ≠ 0
 k3 : b.sh.g = 3 → a.sh.g = 3
 z : b.sh.g = 0 → b.nx = 0
def FA (a : Pp) (g : C13.Sg) : Prop := g.f = 1 ∨ ((g.f = 2 ∨ g.f = 18) ∧ a.sh.g = 3)
def FB (m : Int) (b : Pp) (g : C13.Sg) : Prop := (g.f = 3 ∧ g.a = C13.aAdd m 1 ∧ b.sh.g ≠ 0) ∨ ((g.f = 2 ∨ g.f = 18) ∧ b.sh.g = 3)
theorem FA.f {a : Pp} {g : C13.Sg} (h : FA a g) : g.f = 1 ∨ g.f = 3 ∨ g.f = 2 ∨ g.f = 18 := by
 rcases h with h | ⟨h | h, -⟩
 ·exact .inl h
 ·exact .inr (.inr (.inl h))
 ·exact .inr (.inr (.inr h))
theorem FB.f {m : Int} {a : Pp} {g : C13.Sg} (h : FB m a g) : g.f = 1 ∨ g.f = 3 ∨ g.f = 2 ∨ g.f = 18 := by
 rcases h with h | ⟨h | h, -⟩
 ·exact .inr (.inl h.1)
 ·exact .inr (.inr (.inl h))
 ·exact .inr (.inr (.inr h))
/-- An end goes on. -/
structure Mo (x y : Pp) : Prop where
 n : x.sq.n ≤ y.sq.n
 q : Up x.rq y.rq
 g0 : x.sh.g ≠ 0 → y.sh.g ≠ 0
 g3 : x.sh.g = 3 → y.sh.g = 3
theorem Mo.of {x y : Pp} (h1 : x.sq.n ≤ y.sq.n) (h2 : Up x.rq y.rq) (h3 : y.sh = x.sh) : Mo x y := ⟨h1, h2, fun g => by rw [h3]; exact g, fun g => by rw [h3]; exact g⟩
theorem FA.mo {a b : Pp} {g : C13.Sg} (h : FA a g) (k : Mo a b) : FA b g := h.imp id fun q => ⟨q.1, k.g3 q.2⟩
theorem FB.mo {m : Int} {a b : Pp} {g : C13.Sg} (h : FB m a g) (k : Mo a b) : FB m b g := h.imp (fun q => ⟨q.1, q.2.1, k.g0 q.2.2⟩) fun q => ⟨q.1, k.g3 q.2⟩
section
variable {a b x y : Pp} {m o : Int} {wx wy rx ry w : List UInt8} {g : C13.Sg}
theorem nOn_3 {s : C13.Nd} (h : ShI s m o) (hg : s.g = 3) (hf : g.f = 1 ∨ g.f = 3 ∨ g.f = 2 ∨ g.f = 18) : C13.nOn s g = s := by
 have h8 := has_8 hf
 unfold C13.nOn
 rw [h8]
 split
 ·rfl
 ·split
  ·rfl
  ·simp only [hg, Int.reduceEq, Bool.false_eq_true, reduceIte]
theorem nOn_2 {s : C13.Nd} (h : ShI s m o) (hg : s.g = 2) (hf : g.f = 1 ∨ g.f = 3 ∨ g.f = 2 ∨ g.f = 18) : (C13.nOn s g).g = 2 ∨ (g.f ≠ 1 ∧ (C13.nOn s g).g = 3) := by
 have h8 := has_8 hf
 have h2 := has_2 hf
 unfold C13.nOn
 rw [h8]
 split
 ·exact .inl hg
 ·split
  ·exact .inl hg
  ·simp only [hg, Int.reduceEq, Bool.false_eq_true, reduceIte]
   split
   ·next k => exact .inr ⟨h2.1 k.1, by rw [C13.nAt_yes h.chk]⟩
   ·exact .inl hg
theorem nOn_0 {s : C13.Nd} (h : ShI s m o) (hg : s.g = 0) (hf : g.f = 1) : (C13.nOn s g).g = 0 ∨ (C13.nOn s g).g = 2 := by
 have h8 := has_8 (.inl hf)
 unfold C13.nOn
 rw [h8]
 split
 ·exact .inl hg
 ·split
  ·exact .inl hg
  ·simp only [hg, Int.reduceEq, Bool.false_eq_true, reduceIte]
   split
   ·exact .inr rfl
   ·exact .inl hg
theorem nOn_1 {s : C13.Nd} (h : ShI s m o) (hg : s.g = 1) (hf : g.f = 3) : (C13.nOn s g).g = 1 ∨ (C13.nOn s g).g = 3 := by
 have h8 := has_8 (.inr (.inl hf))
 have h2 := has_2 (f := g.f) (.inr (.inl hf))
 unfold C13.nOn
 rw [h8]
 split
 ·exact .inl hg
 ·split
  ·exact .inl hg
  ·simp only [hg, Int.reduceEq, Bool.false_eq_true, reduceIte]
   split
   ·exact .inr rfl
   ·split
    ·next k => rw [h2.2 (by omega)] at k; exact absurd k.2 (by simp)
    ·exact .inl hg
theorem hs_b (h : Hs a b) (hb : ShI b.sh m o) (hf : FA a g) : Hs a (pOn b g) ∧ (b.sh.g ≠ 0 → (pOn b g).sh.g ≠ 0) ∧ (b.sh.g = 3 → (pOn b g).sh.g = 3) := by
 obtain ⟨e, -, -, e4, -⟩ := on_same b g
 have key : ((pOn b g).sh.g = b.sh.g) ∨ (b.sh.g = 0 ∧ (pOn b g).sh.g = 2) ∨ (b.sh.g = 2 ∧ (pOn b g).sh.g = 3 ∧ a.sh.g = 3) := by
  rcases e with e | e
  ·exact .inl (by rw [e])
  ·rw [e]
   rcases h.k1 with k | k | k
   ·have hf1 : g.f = 1 := by
     rcases hf with q | q
     ·exact q
     ·exact absurd k (h.k2 q.2)
    rcases nOn_0 hb k hf1 with q | q
    ·exact .inl (by omega)
    ·exact .inr (.inl ⟨k, q⟩)
   ·rcases nOn_2 hb k hf.f with q | ⟨q1, q2⟩
    ·exact .inl (by omega)
    ·refine .inr (.inr ⟨k, q2, ?_⟩)
     rcases hf with z | z
     ·exact absurd z q1
     ·exact z.2
   ·exact .inl (by rw [nOn_3 hb k hf.f])
 have k0 := h.k0
 have k1 := h.k1
 have k2 := h.k2
 have k3 := h.k3
 refine ⟨⟨k0, by omega, fun q => ?_, fun q => ?_, fun q => ?_⟩, by omega, by omega⟩
 ·have := k2 q; omega
 ·rcases key with z | z | z
  ·exact k3 (by omega)
  ·omega
  ·exact z.2.2
 ·rw [e4]; exact h.z (by omega)
theorem hs_a (h : Hs a b) (ha : ShI a.sh m o) (hf : FB m b g) : Hs (pOn a g) b ∧ (a.sh.g ≠ 0 → (pOn a g).sh.g ≠ 0) ∧ (a.sh.g = 3 → (pOn a g).sh.g = 3) := by
 obtain ⟨e, -⟩ := on_same a g
 have k0 := h.k0
 have k1 := h.k1
 have k2 := h.k2
 have k3 := h.k3
 have key : ((pOn a g).sh.g = a.sh.g) ∨ (a.sh.g = 1 ∧ (pOn a g).sh.g = 3 ∧ b.sh.g ≠ 0) := by
  rcases e with e | e
  ·exact .inl (by rw [e])
  ·rw [e]
   rcases h.k0 with k | k
   ·have hf1 : g.f = 3 ∧ b.sh.g ≠ 0 := by
     rcases hf with q | q
     ·exact ⟨q.1, q.2.2⟩
     ·have := k3 q.2; omega
    rcases nOn_1 ha k hf1.1 with q | q
    ·exact .inl (by omega)
    ·exact .inr ⟨k, q, hf1.2⟩
   ·exact .inl (by rw [nOn_3 ha k hf.f])
 refine ⟨⟨by omega, k1, fun q => ?_, fun q => ?_, h.z⟩, by omega, by omega⟩
 ·rcases key with z | z
  ·exact k2 (by omega)
  ·exact z.2.2
 ·have := k3 q; omega
theorem hs_of {a' b' : Pp} (h : Hs a b) (h1 : a'.sh = a.sh) (h2 : b'.sh = b.sh) (h3 : b.sh.g = 0 → b'.nx = b.nx) : Hs a' b' :=
 ⟨by rw [h1]; exact h.k0, by rw [h2]; exact h.k1, by rw [h1, h2]; exact h.k2, by rw [h1, h2]; exact h.k3, fun q => by rw [h2] at q; rw [h3 q]; exact h.z q⟩
theorem out_n (k : EndI x m o w) : x.sq.n ≤ (pOut x).1.sq.n := by
 unfold pOut
 split
 ·unfold pSpeak
  split
  ·next ht =>
   rcases C11.pick_v k.sq x.no x.wn.w x.li with ⟨-, q⟩ | q
   ·exact absurd q ht
   ·exact q.n
  ·split
   ·exact Int.le_refl _
   ·split <;> exact Int.le_refl _
 ·unfold pGreet
  split <;> exact Int.le_refl _
theorem speak_f (s : Pp) : (pSpeak s).2.2 = true → (pSpeak s).2.1.f = 2 ∨ (pSpeak s).2.1.f = 18 := by
 unfold pSpeak
 split
 ·exact fun _ => .inl rfl
 ·split
  ·exact fun q => by cases q
  ·split
   ·exact fun _ => .inl rfl
   ·exact fun _ => .inr rfl
theorem out_fa (h : Hs a b) (k : ShI a.sh m o) : (pOut a).2.2 = true → FA (pOut a).1 (pOut a).2.1 := by
 intro hs
 unfold pOut at hs ⊢
 split at hs
 ·next hu =>
  rw [if_pos hu]
  have hg : a.sh.g = 3 := beq_iff_eq.1 hu
  refine .inr ⟨speak_f a hs, ?_⟩
  unfold pSpeak
  split
  ·exact hg
  ·split
   ·exact hg
   ·split <;> exact hg
 ·next hu =>
  rw [if_neg hu]
  have hg : a.sh.g = 1 := by
   rcases h.k0 with q | q
   ·exact q
   ·exact absurd (beq_iff_eq.2 q) hu
  unfold pGreet at hs ⊢
  split at hs
  ·cases hs
  ·next hq =>
   rw [if_neg hq]
   left
   show (C13.nOut a.sh).f = 1
   unfold C13.nOut
   rw [if_pos ⟨k.chk, hg⟩]
theorem out_fb (h : Hs a b) (k : ShI b.sh m o) : (pOut b).2.2 = true → FB o (pOut b).1 (pOut b).2.1 := by
 intro hs
 unfold pOut at hs ⊢
 split at hs
 ·next hu =>
  rw [if_pos hu]
  have hg : b.sh.g = 3 := beq_iff_eq.1 hu
  refine .inr ⟨speak_f b hs, ?_⟩
  unfold pSpeak
  split
  ·exact hg
  ·split
   ·exact hg
   ·split <;> exact hg
 ·next hu =>
  rw [if_neg hu]
  unfold pGreet at hs ⊢
  split at hs
  ·cases hs
  ·next hq =>
   rw [if_neg hq]
   have hsy : C13.nSays b.sh = true := by
    cases q : C13.nSays b.sh
    ·exact absurd (.inl q) hq
    ·rfl
   have hg : b.sh.g = 2 := by
    have := (of_decide_eq_true hsy).2
    have := h.k1
    omega
   left
   show (C13.nOut b.sh).f = 3 ∧ (C13.nOut b.sh).a = _ ∧ b.sh.g ≠ 0
   unfold C13.nOut
   rw [if_neg (by omega), if_pos ⟨k.chk, hg⟩, k.h (.inl hg)]
   exact ⟨rfl, rfl, by omega⟩
theorem out_nx0 (hg : x.sh.g = 0) : (pOut x).1.nx = x.nx := by
 unfold pOut
 have hu : pUp x = false := by unfold pUp; rw [hg]; rfl
 rw [if_neg (by rw [hu]; simp)]
 have hs : C13.nSays x.sh = false := by
  unfold C13.nSays
  rw [hg]
  simp
 unfold pGreet
 rw [if_pos (.inl hs)]
end
structure Cr (m0 m1 : Int) (t : Tk) : Prop where
 l : Lk t.e0 t.e1 m0 m1 t.w0 t.w1 t.r0 t.r1
 t0 : EndT t.e0 t.now
 t1 : EndT t.e1 t.now
 h : Hs t.e0 t.e1
structure Lst (m o : Int) (x : Pp) (l : List C13.Sg) : Prop where
 v : ∀ g ∈ l, SegV m x.sq g
 a : ∀ g ∈ l, SegA o x.rq g
theorem Lst.mo {m o : Int} {x y : Pp} {l : List C13.Sg} (h : Lst m o x l) (k : Mo x y) : Lst m o y l := ⟨fun g hg => (h.v g hg).grow k.n, fun g hg => (h.a g hg).grow k.q⟩
theorem Lst.app {m o : Int} {x y : Pp} {l : List C13.Sg} {s : C13.Sg} (h : Lst m o x l) (k : Mo x y) (h1 : SegV m y.sq s) (h2 : SegA o y.rq s) : Lst m o y (l ++ [s]) := by
 have := h.mo k
 refine ⟨fun g hg => ?_, fun g hg => ?_⟩
 ·rcases List.mem_append.1 hg with q | q
  ·exact this.v g q
  ·rw [List.mem_singleton.1 q]; exact h1
 ·rcases List.mem_append.1 hg with q | q
  ·exact this.a g q
  ·rw [List.mem_singleton.1 q]; exact h2
structure TV (m0 m1 : Int) (t : Tk) : Prop where
 c : Cr m0 m1 t
 s0 : Lst m0 m1 t.e0 t.s0
 s1 : Lst m1 m0 t.e1 t.s1
 f0 : ∀ g ∈ t.s0, FA t.e0 g
 f1 : ∀ g ∈ t.s1, FB m0 t.e1 g
theorem tv_deed {m0 m1 : Int} {t : Tk} {j : Nat} (h : TV m0 m1 t) (ti : TI m0 m1 t j) (hj : j < 150) (d : De) (hd : d.t.length ≤ 200) : TV m0 m1 (tDeed t d) := by
 obtain ⟨⟨l, t0, t1, hh⟩, s0, s1, f0, f1⟩ := h
 have wl := ti.wl
 have nw := ti.nw
 have wr : IntKind.i64.wrap (t.now + 1) = t.now + 1 := by rw [IntKind.wrap_i64]; omega
 have same : TV m0 m1 t := ⟨⟨l, t0, t1, hh⟩, s0, s1, f0, f1⟩
 unfold tDeed
 split
 ·obtain ⟨a1, a2, a3⟩ := endT_write t0 d.t
  have wn : t.e0.sq.n ≤ (pWrite t.e0 d.t).1.sq.n := by
   unfold pWrite; split
   ·exact Int.le_refl _
   ·rw [(rWrite_same t.e0.sq d.t).2.1]; exact Int.le_refl _
  have wq : (pWrite t.e0 d.t).1.rq = t.e0.rq := (endI_write l.ex (t := d.t) (by omega)).2
  have mo : Mo t.e0 (pWrite t.e0 d.t).1 := Mo.of wn (by rw [wq]; exact Up.refl _) a2
  exact ⟨⟨lk_write l (by omega), a1, t1, hs_of hh a2 rfl fun _ => rfl⟩, s0.mo mo, s1, fun g hg => (f0 g hg).mo mo, f1⟩
 ·split
  ·obtain ⟨a1, a2, a3⟩ := endT_write t1 d.t
   have wn : t.e1.sq.n ≤ (pWrite t.e1 d.t).1.sq.n := by
    unfold pWrite; split
    ·exact Int.le_refl _
    ·rw [(rWrite_same t.e1.sq d.t).2.1]; exact Int.le_refl _
   have wq : (pWrite t.e1 d.t).1.rq = t.e1.rq := (endI_write l.ey (t := d.t) (by omega)).2
   have mo : Mo t.e1 (pWrite t.e1 d.t).1 := Mo.of wn (by rw [wq]; exact Up.refl _) a2
   exact ⟨⟨(lk_write l.sw (by omega)).sw, t0, a1, hs_of hh rfl a2 fun _ => a3⟩, s0, s1.mo mo, f0, fun g hg => (f1 g hg).mo mo⟩
  ·split
   ·rw [wr]
    have p0 := t0.he
    have p1 := t1.he
    obtain ⟨a1, a2, a3, a4, a5, a6, a7, a8⟩ := endT_tick t0 l.ex.sq (by omega) (by omega)
    obtain ⟨b1, b2, b3, b4, b5, b6, b7, b8⟩ := endT_tick t1 l.ey.sq (by omega) (by omega)
    have l2 := (lk_tick (lk_tick l (now := t.now + 1) (by omega)).sw (now := t.now + 1) (by omega)).sw
    have m0' : Mo t.e0 (pTick t.e0 (t.now + 1)) := Mo.of (by rcases a8 with e | ⟨e, -⟩ <;> rw [e] <;> exact Int.le_refl _) (by rw [a7]; exact Up.refl _) a2
    have m1' : Mo t.e1 (pTick t.e1 (t.now + 1)) := Mo.of (by rcases b8 with e | ⟨e, -⟩ <;> rw [e] <;> exact Int.le_refl _) (by rw [b7]; exact Up.refl _) b2
    exact ⟨⟨l2, a1, b1, hs_of hh a2 b2 fun _ => b4⟩, s0.mo m0', s1.mo m1', fun g hg => (f0 g hg).mo m0', fun g hg => (f1 g hg).mo m1'⟩
   ·split
    ·obtain ⟨a1, a2⟩ := lk_out l
     obtain ⟨b1, b2⟩ := endT_out t0 l.ex
     have rq : (pOut t.e0).1.rq = t.e0.rq := (endI_out l.ex l.rx.ok).2.1
     have mo : Mo t.e0 (pOut t.e0).1 := Mo.of (out_n l.ex) (by rw [rq]; exact Up.refl _) b2
     have hf := out_fa hh l.ex.sh
     refine ⟨⟨a1, b1, t1, hs_of hh b2 rfl fun _ => rfl⟩, ?_, s1, ?_, f1⟩
     ·show Lst m0 m1 (pOut t.e0).1 (if (pOut t.e0).2.2 = true then t.s0 ++ [(pOut t.e0).2.1] else t.s0)
      split
      ·next q =>
       obtain ⟨-, c2, c3⟩ := a2 q
       exact s0.app mo c2 (by rw [rq]; exact c3)
      ·exact s0.mo mo
     ·intro g hg
      have hg : g ∈ (if (pOut t.e0).2.2 = true then t.s0 ++ [(pOut t.e0).2.1] else t.s0) := hg
      split at hg
      ·next q =>
       rcases List.mem_append.1 hg with hg | hg
       ·exact (f0 g hg).mo mo
       ·rw [List.mem_singleton.1 hg]; exact hf q
      ·exact (f0 g hg).mo mo
    ·split
     ·obtain ⟨a1, a2⟩ := lk_out l.sw
      obtain ⟨b1, b2⟩ := endT_out t1 l.ey
      have rq : (pOut t.e1).1.rq = t.e1.rq := (endI_out l.ey l.ry.ok).2.1
      have mo : Mo t.e1 (pOut t.e1).1 := Mo.of (out_n l.ey) (by rw [rq]; exact Up.refl _) b2
      have hf := out_fb hh l.ey.sh
      refine ⟨⟨a1.sw, t0, b1, hs_of hh rfl b2 fun q => out_nx0 q⟩, s0, ?_, f0, ?_⟩
      ·show Lst m1 m0 (pOut t.e1).1 (if (pOut t.e1).2.2 = true then t.s1 ++ [(pOut t.e1).2.1] else t.s1)
       split
       ·next q =>
        obtain ⟨-, c2, c3⟩ := a2 q
        exact s1.app mo c2 (by rw [rq]; exact c3)
       ·exact s1.mo mo
      ·intro g hg
       have hg : g ∈ (if (pOut t.e1).2.2 = true then t.s1 ++ [(pOut t.e1).2.1] else t.s1) := hg
       split at hg
       ·next q =>
        rcases List.mem_append.1 hg with hg | hg
        ·exact (f1 g hg).mo mo
        ·rw [List.mem_singleton.1 hg]; exact hf q
       ·exact (f1 g hg).mo mo
     ·split
      ·split
       ·next g hg =>
        have hm := nth_mem hg
        obtain ⟨a1, a2, a3⟩ := lk_on l (ti.g0 g hm) (s0.v g hm) (s0.a g hm)
        obtain ⟨b1, b2, b3⟩ := hs_b hh l.ey.sh (f0 g hm)
        have mo : Mo t.e1 (pOn t.e1 g) := ⟨by rw [a3]; exact Int.le_refl _, a2, b2, b3⟩
        exact ⟨⟨a1, t0, endT_on t1 l.ey.sq, b1⟩, s0, s1.mo mo, f0, fun k hk => (f1 k hk).mo mo⟩
       ·exact same
      ·split
       ·split
        ·next g hg =>
         have hm := nth_mem hg
         obtain ⟨a1, a2, a3⟩ := lk_on l.sw (ti.g1 g hm) (s1.v g hm) (s1.a g hm)
         obtain ⟨b1, b2, b3⟩ := hs_a hh l.ex.sh (f1 g hm)
         have mo : Mo t.e0 (pOn t.e0 g) := ⟨by rw [a3]; exact Int.le_refl _, a2, b2, b3⟩
         exact ⟨⟨a1.sw, endT_on t0 l.ex.sq, t1, b1⟩, s0.mo mo, s1, fun k hk => (f0 k hk).mo mo, f1⟩
        ·exact same
       ·split
        ·obtain ⟨a1, a2⟩ := lk_read l d.n
         have mo : Mo t.e0 (pRead t.e0 d.n).1 := Mo.of (Int.le_refl _) a2 rfl
         exact ⟨⟨a1, (endT_read t0 d.n).1, t1, hs_of hh rfl rfl fun _ => rfl⟩, s0.mo mo, s1, fun k hk => (f0 k hk).mo mo, f1⟩
        ·obtain ⟨a1, a2⟩ := lk_read l.sw d.n
         have mo : Mo t.e1 (pRead t.e1 d.n).1 := Mo.of (Int.le_refl _) a2 rfl
         exact ⟨⟨a1.sw, t0, (endT_read t1 d.n).1, hs_of hh rfl rfl fun _ => rfl⟩, s0, s1.mo mo, f0, fun k hk => (f1 k hk).mo mo⟩
end Go.Proofs.YtalpfhpeaaocmaaGreat
end
section
namespace Go.Proofs.YtalpfhpeaaocmaaGreat
open Sx Go.RowKit
section
variable {x y : Pp} {m o now : Int} {wx wy rx ry : List UInt8} {g : C13.Sg}
/-- The other end, behind what this one says. -/
def hy (x y : Pp) : Pp := if (pOut x).2.2 = true then pOn y (pOut x).2.1 else y
/-- This end, when it has said, and read. -/
def hx (x : Pp) : Pp := (pRead (pOut x).1 255).1
theorem gchk {g : C13.Sg} (f : g.f = 2 ∨ g.f = 18) (p : g.p = 2) (e : g.e = 9) (w : 0 ≤ g.w ∧ g.w ≤ 65535) (k : g.k.length ≤ 3) (t : g.t.length ≤ 48) : C13.gChk g = 0 := by
 have f4 : g.f = 1 ∨ g.f = 3 ∨ g.f = 2 ∨ g.f = 18 := .inr (.inr f)
 have h1 := has_1 f4
 have h2 := (has_2 f4).2 (by omega)
 have h8 := has_8 f4
 have h1' : C13.hasB g.f 1 = false := by
  cases q : C13.hasB g.f 1
  ·rfl
  ·have := h1.1 q; omega
 unfold C13.gChk
 rw [if_neg (by omega), if_neg (by omega), if_neg (by omega), if_neg (by rw [h1', h2, h8]; simp)]
theorem fit_bear (hx : EndI x m o wx) (hr : C12.Ok x.rq) (hy : ShI y.sh o m) (a : Int) {t : List UInt8} (ht : t.length ≤ 48) {f : Int} (hf : f = 2 ∨ f = 18) : C13.nFit y.sh { pBear x a t with f := f } = true := by
 unfold C13.nFit
 refine decide_eq_true ⟨gchk hf hx.sh.p hx.sh.e (free_bd (s := x) hr) ?_ ht, ?_, ?_⟩
 ·show ((pBks x).map bkD).length ≤ 3
  rw [List.length_map]
  unfold pBks
  rw [List.length_map]
  exact rBlk_len' _
 ·show x.sh.p = y.sh.p
  rw [hx.sh.p, hy.p]
 ·show x.sh.e = y.sh.e
  rw [hx.sh.e, hy.e]
theorem behind_num {n u : Int} (n0 : 0 ≤ n ∧ n < 4294967296) (u0 : 0 ≤ u) (u1 : u ≤ 1000000) : C13.aBehind (pNum n u) n = true := by
 have w1 : IntKind.i64.wrap (u + 1) = u + 1 := by rw [IntKind.wrap_i64]; omega
 unfold C13.aBehind C13.aIn pNum C13.aAdd
 rw [w1]
 exact decide_eq_true (by omega)
/-- What the other end is, when one that is up says something to it. -/
structure On (x y y' : Pp) (f : Int) (t : List UInt8) (a : Int) : Prop where
 g : y'.sh.g = 3
 he : y'.he = y.no
 no : y'.no = y.no
 pr : y'.pr = y.pr
 b : y'.sq.b = x.rq.b
 n : y'.sq.n = y.sq.n
 li : C12.rLim x.rq ≤ y'.li
 lu : y.li ≤ y'.li
 fl : ∀ c ∈ y'.sq.fl, ∃ c' ∈ y.sq.fl, c'.f ≤ c.f ∧ c.t ≤ c'.t ∧ c.s = c'.s ∧ (c.l = false → c'.l = false)
 du : y'.du = ((decide (t ≠ []) || decide (f = 18)) || y.du)
 rq : y'.rq = if t ≠ [] then (C12.rPut y.rq a t).1 else y.rq
theorem on_bear (h : Lk x y m o wx wy rx ry) (hx3 : x.sh.g = 3) (hy3 : y.sh.g = 3 ∨ y.sh.g = 2) {a : Int} {t : List UInt8} {f : Int} (hf : f = 2 ∨ f = 18) (ht : t.length ≤ 48) (a0 : 0 ≤ a) (a1 : a + t.length ≤ x.sq.n) (hs : SegI m wx { pBear x a t with f := f }) : On x y (pOn y { pBear x a t with f := f }) f t a := by
 obtain ⟨z, hz⟩ : ∃ z, z = { pBear x a t with f := f } := ⟨_, rfl⟩
 have zf : z.f = f := by rw [hz]
 have zt : z.t = t := by rw [hz]; rfl
 have zq : z.q = pNum m a := by rw [hz]; show pNum x.sh.m a = _; rw [h.ex.sh.m]
 have za : z.a = pNum o x.rq.b := by rw [hz]; show pNum x.sh.h x.rq.b = _; rw [h.ex.sh.h (.inr hx3)]
 have f4 : z.f = 1 ∨ z.f = 3 ∨ z.f = 2 ∨ z.f = 18 := by omega
 have h1 := has_1 f4
 have h2 := (has_2 f4).2 (by omega)
 have h8 := has_8 f4
 have h16 := has_16 f4
 have h1' : C13.hasB z.f 1 = false := by
  cases q : C13.hasB z.f 1
  ·rfl
  ·have := h1.1 q; omega
 have hfit : C13.nFit y.sh z = true := by rw [hz]; exact fit_bear h.ex h.rx.ok h.ey.sh a ht hf
 have hl := h.lim
 have hl' := h.sw.lim
 have hnd := h.ex.sq.nd
 have hwl := h.ex.wl
 have ym := h.ey.sh.m
 have ymb := h.ey.mb
 have xmb := h.ex.mb
 have yh : y.sh.h = m := h.ey.sh.h (by omega)
 have g3 : (C13.nOn y.sh z).g = 3 := by
  rcases hy3 with q | q
  ·rw [nOn_3 h.ey.sh q f4]; exact q
  ·have b1 : C13.aBehind z.a y.sh.m = true := by rw [za, ym]; exact behind_num ymb hl'.2.2.2 (by omega)
   have b2 : C13.aBehind z.q y.sh.h = true := by rw [zq, yh]; exact behind_num xmb a0 (by omega)
   unfold C13.nOn
   rw [if_neg (by rw [h.ey.sh.chk, hfit]; simp; omega), if_neg (by omega), h8]
   simp only [q, Int.reduceEq, Bool.false_eq_true, reduceIte]
   rw [if_pos ⟨h2, b1, .inr b2⟩, C13.nAt_yes h.ey.sh.chk]
 have hd : pDead y = false := by
  unfold pDead
  exact beq_eq_false_iff_ne.2 (by omega)
 obtain ⟨y1, hy1⟩ : ∃ y1, y1 = { y with he := y.no, sh := C13.nOn y.sh z } := ⟨_, rfl⟩
 have e1 : pOn y z = pTook y1 z := by
  unfold pOn
  rw [if_neg (by rw [hd, hfit]; simp), if_pos (show pUp { y with he := y.no, sh := C13.nOn y.sh z } = true from beq_iff_eq.2 g3), hy1]
 have eA : pA y1 z = pAcked y1 z := by unfold pA; rw [if_pos ⟨h2, h1'⟩]
 have hs : SegI m wx z := by rw [hz]; exact hs
 have l1 : Lk x y1 m o wx wy rx ry := by
  rw [hy1]
  exact ⟨h.ex, ⟨h.ey.sh.on hs, h.ey.mb, h.ey.sq, h.ey.wl, h.ey.rt, h.ey.wn, h.ey.li, h.ey.no⟩, h.rx, h.ry, h.dx, h.dy⟩
 have y1g : y1.sh.g = 3 := by rw [hy1]; exact g3
 obtain ⟨eq1, -, -⟩ := free_eq (s := x) h.rx.ok
 have hxb := h.rx.ok.b
 have ht : AckT o x.rq z x.rq.b (C12.rBlk x.rq 3) := by
  refine ⟨by omega, Int.le_refl _, za, ?_, ?_, fun w hw => ?_⟩
  ·rw [hz]
   show x.rq.b + min (pFree x) 65535 ≤ _
   rw [eq1]; omega
  ·rw [hz]
   show (pBks x).map bkD = _
   unfold pBks
   rw [h.ex.sh.h (.inr hx3)]
   rfl
  ·obtain ⟨z1, z2, z3, z4⟩ := C12.blk_rcv h.rx.ok hw
   exact ⟨by omega, z2, by omega, z4⟩
 obtain ⟨ak, al⟩ := ack_e l1 hs ht (by omega)
 have y1sq : y1.sq = y.sq := by rw [hy1]
 have y1li : y1.li = y.li := by rw [hy1]
 have y1rq : y1.rq = y.rq := by rw [hy1]
 have bb := h.dy.bb
 obtain ⟨t1, t2, t3, t4, t5, t6, t7, t8, t9⟩ := took_same y1 z
 rw [← hz, e1]
 refine ⟨by rw [t1]; exact y1g, by rw [t3, hy1], by rw [t2, hy1], by rw [t5, hy1], ?_, ?_, ?_, ?_, ?_, ?_, ?_⟩
 ·rw [t6, eA]
  have := ak.d.bb
  have := ak.up (by rw [y1sq]; exact bb)
  omega
 ·rw [t6, eA, ak.n, y1sq]
 ·rw [t7, eA]
  have := al (by rw [y1sq]; exact bb)
  have hw : z.w = min (pFree x) 65535 := by rw [hz]; rfl
  rw [hw, eq1] at this
  have h4 : C12.rLim x.rq ≤ C12.rS x.rq + 4096 := Int.min_le_left _ _
  have h5 := C12.rS_b h.rx.ok
  omega
 ·rw [t7, eA, ← y1li]; exact ak.li
 ·rw [t6, eA, ← y1sq]; exact ak.fl
 ·have e16 : C13.hasB z.f 16 = decide (f = 18) := by
   cases q : C13.hasB z.f 16
   ·exact (decide_eq_false (fun k => by rw [h16.2 (by omega)] at q; cases q)).symm
   ·exact (decide_eq_true (by have := h16.1 q; omega)).symm
  rw [t9, h1', zt, hy1, Bool.false_or, e16]
 ·rw [pTook_eq]
  have arq : (pA y1 z).rq = y.rq := by rw [eA]; exact y1rq
  have ash : (pA y1 z).sh.h = m := by rw [eA]; exact l1.ey.sh.h (.inr y1g)
  show (if z.t ≠ [] then (C12.rPut (pA y1 z).rq (pPlc (pA y1 z).sh.h (pA y1 z).rq.b z.q) z.t).1 else (pA y1 z).rq) = _
  rw [arq, ash, zt, zq, plc_num xmb.1 xmb.2 (by omega) (by omega) a0 (by omega)]
/-- What an end that is up says. -/
structure Say (x y : Pp) : Prop where
 s : (pOut x).2.2 = true
 g : (hy x y).sh.g = 3
 he : (hy x y).he = y.no
 no : (hy x y).no = y.no
 pr : (hy x y).pr = y.pr
 b : (hy x y).sq.b = x.rq.b
 n : (hy x y).sq.n = y.sq.n
 li : C12.rLim x.rq ≤ (hy x y).li
 lu : y.li ≤ (hy x y).li
 fl : ∀ c ∈ (hy x y).sq.fl, ∃ c' ∈ y.sq.fl, c'.f ≤ c.f ∧ c.t ≤ c'.t ∧ c.s = c'.s ∧ (c.l = false → c'.l = false)
 du : y.du = true → (hy x y).du = true
 xd : (pOut x).1.du = false
 xp : (pOut x).1.pr = x.pr ∨ ((pOut x).1.pr = x.no ∧ (hy x y).du = true)
 up : Up y.rq (hy x y).rq
 rs : C12.rS (hy x y).rq = C12.rS y.rq
 dt : (∃ c t, C11.PkV x.sq (pOut x).1.sq c t x.no x.li ∧ (hy x y).du = true ∧ (pOut x).1.pr = x.pr ∧ ∀ k, c.f ≤ k → k < c.t → C12.Rcv (hy x y).rq k) ∨
    ((pOut x).1.sq = x.sq ∧ (hy x y).rq = y.rq ∧ ((x.du = true ∧ (hy x y).du = y.du ∧ (pOut x).1.pr = x.pr) ∨ (x.du = false ∧ (hy x y).du = true ∧ (pOut x).1.pr = x.no ∧ 16 ≤ x.no - max x.he x.pr)))
theorem out_fix (h3 : x.sh.g = 3) : (pOut x).1.sh = x.sh ∧ (pOut x).1.he = x.he ∧ (pOut x).1.rq = x.rq ∧ (pOut x).1.li = x.li ∧ (pOut x).1.no = x.no ∧ (pOut x).1.nx = x.nx := by
 unfold pOut
 rw [if_pos (show pUp x = true from beq_iff_eq.2 h3)]
 unfold pSpeak
 split
 ·exact ⟨rfl, rfl, rfl, rfl, rfl, rfl⟩
 ·split
  ·exact ⟨rfl, rfl, rfl, rfl, rfl, rfl⟩
  ·split <;> exact ⟨rfl, rfl, rfl, rfl, rfl, rfl⟩
theorem half_up (h : Lk x y m o wx wy rx ry) (hx3 : x.sh.g = 3) (hy3 : y.sh.g = 3 ∨ y.sh.g = 2) (hh : 0 ≤ x.he) (hp : 0 ≤ x.pr) (hh2 : x.he ≤ x.no) (hp2 : x.pr ≤ x.no) :
  Say x y ∨ ((pOut x).2.2 = false ∧ (pOut x).1 = x ∧ hy x y = y ∧ (pPick x).2.2 = [] ∧ x.du = false ∧ x.no - max x.he x.pr < 16) := by
 obtain ⟨l1, l2⟩ := lk_out h
 have hno := h.ex.no
 have hb0 := h.ex.sq.b0
 have hbn := h.ex.sq.bn
 have hu : pUp x = true := beq_iff_eq.2 hx3
 have eo : pOut x = pSpeak x := by unfold pOut; rw [if_pos hu]
 by_cases ht : (pPick x).2.2 ≠ []
 ·left
  have eS : pSpeak x = ({ x with sq := (pPick x).1, du := false }, pBear x (pPick x).2.1.f (pPick x).2.2, true) := by unfold pSpeak; rw [if_pos ht]
  have e := eo.trans eS
  have hs : (pOut x).2.2 = true := by rw [e]
  have pk : C11.PkV x.sq (pPick x).1 (pPick x).2.1 (pPick x).2.2 x.no x.li := by
   rcases C11.pick_v h.ex.sq x.no x.wn.w x.li with ⟨-, q⟩ | q
   ·exact absurd q ht
   ·exact q
  have hsg := (l2 hs).1
  rw [e] at hsg
  have q1 := pk.len
  have q2 := pk.cn
  have q3 := pk.cb
  have q4 := pk.z
  have q5 := pk.n
  have q6 := pk.ft
  
  have lx : Lk { x with sq := (pPick x).1, du := false } y m o wx wy rx ry := by
   have := l1
   rw [e] at this
   exact this
  have on := on_bear lx hx3 hy3 (a := (pPick x).2.1.f) (t := (pPick x).2.2) (f := 2) (.inl rfl) (by omega) (by omega) (by show _ ≤ (pPick x).1.n; omega) hsg
  have eh : hy x y = pOn y (pBear x (pPick x).2.1.f (pPick x).2.2) := by unfold hy; rw [if_pos hs, e]
  have on : On x y (hy x y) 2 (pPick x).2.2 (pPick x).2.1.f := by
   rw [eh]
   exact ⟨on.g, on.he, on.no, on.pr, on.b, on.n, on.li, on.lu, on.fl, on.du, on.rq⟩
  have hdu : (hy x y).du = true := by rw [on.du, decide_eq_true ht]; rfl
  have ol := h.dx.nl
  have ol2 := h.dx.lim
  have ol3 := pk.nl
  have olm := h.lim
  have hnd := lx.ex.sq.nd
  have hnd : (pPick x).1.n ≤ wx.length := hnd
  have hwl := h.ex.wl
  have hrq : (hy x y).rq = (C12.rPut y.rq (pPick x).2.1.f (pPick x).2.2).1 := by rw [on.rq, if_pos ht]
  obtain ⟨-, p2, p3, p4, p5, p6, -⟩ := C12.put_rcv h.ry.ok (a := (pPick x).2.1.f) (by omega) (by omega) (pPick x).2.2
  refine ⟨hs, on.g, on.he, on.no, on.pr, on.b, on.n, on.li, on.lu, on.fl, fun _ => hdu, by rw [e], .inl (by rw [e]), by rw [hrq]; exact ⟨p4, p5, by omega⟩, by rw [hrq]; exact p2, .inl ⟨(pPick x).2.1, (pPick x).2.2, by rw [e]; exact pk, hdu, by rw [e], fun k k1 k2 => ?_⟩⟩
  rw [hrq]
  exact p6 k k1 (by omega) (by omega)
 ·have ht' : (pPick x).2.2 = [] := Decidable.not_not.1 ht
  have ew : IntKind.i64.wrap (x.no - max x.he x.pr) = x.no - max x.he x.pr := by rw [IntKind.wrap_i64]; omega
  by_cases hq : x.du = false ∧ IntKind.i64.wrap (x.no - max x.he x.pr) < 16
  ·right
   have eS : pSpeak x = (x, C13.sgZ, false) := by unfold pSpeak; rw [if_neg ht, if_pos hq]
   have e := eo.trans eS
   have hs : (pOut x).2.2 = false := by rw [e]
   refine ⟨hs, by rw [e], by unfold hy; rw [hs]; rfl, ht', hq.1, ?_⟩
   rw [ew] at hq
   exact hq.2
  ·left
   have hn0 : 0 ≤ x.sq.n := by omega
   have hn1 : x.sq.n + (([] : List UInt8).length : Int) ≤ x.sq.n := by show x.sq.n + (0 : Int) ≤ _; omega
   by_cases hd : x.du = true
   ·have eS : pSpeak x = ({ x with du := false }, pBear x x.sq.n [], true) := by unfold pSpeak; rw [if_neg ht, if_neg hq, if_pos hd]
    have e := eo.trans eS
    have hs : (pOut x).2.2 = true := by rw [e]
    have hsg := (l2 hs).1
    rw [e] at hsg
    have on := on_bear h hx3 hy3 (a := x.sq.n) (t := []) (f := 2) (.inl rfl) (by decide) hn0 hn1 hsg
    have eh : hy x y = pOn y (pBear x x.sq.n []) := by unfold hy; rw [if_pos hs, e]
    have on : On x y (hy x y) 2 [] x.sq.n := by rw [eh]; exact on
    have hrq : (hy x y).rq = y.rq := by rw [on.rq]; rfl
    exact ⟨hs, on.g, on.he, on.no, on.pr, on.b, on.n, on.li, on.lu, on.fl, fun q => by rw [on.du, q, Bool.or_true], by rw [e], .inl (by rw [e]), by rw [hrq]; exact Up.refl _, by rw [hrq], .inr ⟨by rw [e], hrq, .inl ⟨hd, by rw [on.du]; rfl, by rw [e]⟩⟩⟩
   ·have hd' : x.du = false := by cases q : x.du; rfl; exact absurd q hd
    have hq := fun k => hq ⟨hd', k⟩
    have hq : ¬ IntKind.i64.wrap (x.no - max x.he x.pr) < 16 := hq
    have eS : pSpeak x = ({ x with du := false, pr := x.no }, { pBear x x.sq.n [] with f := 18 }, true) := by unfold pSpeak; rw [if_neg ht, if_neg (fun k => hq k.2), if_neg hd]
    have e := eo.trans eS
    have hs : (pOut x).2.2 = true := by rw [e]
    have hsg := (l2 hs).1
    rw [e] at hsg
    have on := on_bear h hx3 hy3 (a := x.sq.n) (t := []) (f := 18) (.inr rfl) (by decide) hn0 hn1 hsg
    have eh : hy x y = pOn y { pBear x x.sq.n [] with f := 18 } := by unfold hy; rw [if_pos hs, e]
    have on : On x y (hy x y) 18 [] x.sq.n := by rw [eh]; exact on
    have hrq : (hy x y).rq = y.rq := by rw [on.rq]; rfl
    have hdu : (hy x y).du = true := by rw [on.du]; rfl
    exact ⟨hs, on.g, on.he, on.no, on.pr, on.b, on.n, on.li, on.lu, on.fl, fun _ => hdu, by rw [e], .inr ⟨by rw [e], hdu⟩, by rw [hrq]; exact Up.refl _, by rw [hrq], .inr ⟨by rw [e], hrq, .inr ⟨hd', hdu, by rw [e], by rw [ew] at hq; omega⟩⟩⟩
/-- One end says, the other one takes, the first one reads. -/
theorem lk_half (h : Lk x y m o wx wy rx ry) : Lk (hx x) (hy x y) m o wx wy (rx ++ (pRead (pOut x).1 255).2) ry := by
 obtain ⟨l1, l2⟩ := lk_out h
 have h2 : Lk (pOut x).1 (hy x y) m o wx wy rx ry := by
  unfold hy
  split
  ·next q =>
   obtain ⟨a1, a2, a3⟩ := l2 q
   have rq : (pOut x).1.rq = x.rq := (endI_out h.ex h.rx.ok).2.1
   exact (lk_on l1 a1 a2 (by rw [rq]; exact a3)).1
  ·exact l1
 exact (lk_read h2 255).1
end
end Go.Proofs.YtalpfhpeaaocmaaGreat
end
section
namespace Go.Proofs.YtalpfhpeaaocmaaGreat
open Sx Go.RowKit
def bi (b : Bool) : Int := if b = true then 1 else 0
theorem bi_bd (b : Bool) : 0 ≤ bi b ∧ bi b ≤ 1 := by cases b <;> decide
def fullB (x : Pp) : Bool := decide (4048 < x.rq.r.length)
/-- What is under way came. -/
def G2 (x y : Pp) : Prop := ∀ c ∈ x.sq.fl, c.l = false → ∀ k, c.f ≤ k → k < c.t → C12.Rcv y.rq k
def G3 (q : Int) (x y : Pp) : Prop := ∀ c ∈ x.sq.fl, c.l = false → c.s < q ∨ c.t ≤ y.rq.b
/-- What x knows of y. -/
structure Kn (R : Int) (x y : Pp) : Prop where
 he : R ≤ x.he
 pr : x.pr ≤ x.he
 b : x.sq.b = y.rq.b
 li : y.rq.b + 48 ≤ x.li ∨ y.du = true
/-- It is x's turn. -/
structure Tn (R q now : Int) (x y : Pp) (kx ky : Bool) : Prop where
 gx : x.sh.g = 3
 gy : y.sh.g = 3
 tx : EndT x now
 ty : EndT y now
 g2x : G2 x y
 g2y : G2 y x
 g3x : G3 q x y
 g3y : G3 q y x
 k1 : kx = true → Kn R x y
 k2 : ky = true → Kn R y x ∨ x.du = true
 w1 : kx = false → x.he < R ∧ x.pr < R
 w2 : ky = false → y.he < R ∧ y.pr < R
 yr : y.rq.r.length ≤ 3841
 xr : x.rq.r.length ≤ 3841 ∨ x.du = true
 rn : R ≤ now
 qn : q ≤ now
/-- How much is to be done at most. -/
def pot (x y : Pp) (ax ay : Int) (kx ky : Bool) : Int :=
 2 * (ax - y.rq.b) + 2 * (ay - x.rq.b) + bi x.du + bi y.du + bi (fullB x) + 2 * bi (decide (x.pr < x.no)) + 2 * bi (decide (y.pr < y.no)) + 2 * bi (!kx) + 2 * bi (!ky)
section
variable {x y : Pp} {m o now R q : Int} {wx wy rx ry : List UInt8} {g : C13.Sg} {kx ky : Bool}
theorem lim_eq {s : C12.Rq} (h : C12.Ok s) (hb : s.b ≤ 100000) : C12.rLim s = s.b - s.r.length + 4096 := by
 have := h.b
 unfold C12.rLim; omega
theorem rd_f (h : C12.Ok x.rq) (hb : x.rq.b ≤ 100000) : (pRead x 255).1.rq.b = x.rq.b ∧ (pRead x 255).1.rq.r.length = x.rq.r.length - 255 ∧ (pRead x 255).1.du = (x.du || fullB x) ∧ (pRead x 255).2 = x.rq.r.take 255 := by
 have hc : C12.rChk x.rq = 0 := C12.ok_iff.2 h
 have er : C12.rRead x.rq 255 = (⟨x.rq.b, x.rq.r.drop 255, x.rq.p⟩, x.rq.r.take 255) := by
  unfold C12.rRead
  rw [if_neg (by rw [hc]; simp)]
  rfl
 obtain ⟨e1, -, -⟩ := free_eq (s := x) h
 rw [lim_eq h hb] at e1
 refine ⟨?_, ?_, ?_, ?_⟩
 ·show (C12.rRead x.rq 255).1.b = _
  rw [er]
 ·show (C12.rRead x.rq 255).1.r.length = _
  rw [er]
  show (x.rq.r.drop 255).length = _
  rw [List.length_drop]
 ·show (x.du || (decide (pFree x < 48) && decide ((C12.rRead x.rq 255).2 ≠ []))) = _
  rw [er]
  congr 1
  unfold fullB
  by_cases g : 4048 < x.rq.r.length
  ·have e2 : x.rq.r.take 255 ≠ [] := fun k => by
    have := congrArg List.length k
    rw [List.length_take, List.length_nil] at this
    omega
   rw [decide_eq_true g, decide_eq_true e2, decide_eq_true (by omega)]
   rfl
  ·rw [decide_eq_false g, decide_eq_false (by omega)]
   rfl
 ·show (C12.rRead x.rq 255).2 = _
  rw [er]
theorem hx_f (h : Lk x y m o wx wy rx ry) : (hx x).rq.b = x.rq.b ∧ (hx x).rq.r.length = x.rq.r.length - 255 ∧ (hx x).du = ((pOut x).1.du || fullB x) ∧ (∀ k, C12.Rcv (hx x).rq k ↔ C12.Rcv x.rq k) ∧ (pRead (pOut x).1 255).2 = x.rq.r.take 255 := by
 have rq : (pOut x).1.rq = x.rq := (endI_out h.ex h.rx.ok).2.1
 have hb := h.sw.lim
 obtain ⟨a1, a2, a3, a4⟩ := rd_f (x := (pOut x).1) (by rw [rq]; exact h.rx.ok) (by rw [rq]; omega)
 have ef : fullB (pOut x).1 = fullB x := by unfold fullB; rw [rq]
 rw [rq] at a1 a2 a4
 rw [ef] at a3
 refine ⟨a1, a2, a3, fun k => ?_, a4⟩
 have := (C12.read_rcv h.rx.ok 255).2.1 k
 show C12.Rcv (C12.rRead (pOut x).1.rq 255).1 k ↔ _
 rw [rq]; exact this
theorem pk_b (h : Lk x y m o wx wy rx ry) (g2 : G2 x y) {c : C11.Ck} {t : List UInt8} {s : C11.Sq} {n l : Int} (pk : C11.PkV x.sq s c t n l) {z : C12.Rq} (up : Up y.rq z) (ok : C12.Ok z) (hr : ∀ k, c.f ≤ k → k < c.t → C12.Rcv z k) : c.t ≤ z.b := by
 rcases Int.lt_or_le z.b c.t with k | k
 ·exfalso
  refine C12.rcv_b ok ?_
  have h1 := h.dx.bb
  have h2 := up.b
  by_cases q : z.b < c.f
  ·rcases pk.lo h.dx.cov z.b (by omega) q with e | ⟨c', hc, hl, e1, e2⟩
   ·exact up.r _ (h.dx.cm _ e)
   ·exact up.r _ (g2 c' hc hl _ e1 e2)
  ·exact hr _ (by omega) k
 ·exact k
theorem tn_half (h : Lk x y m o wx wy rx ry) (t : Tn R q now x y kx ky) :
  ((pOut x).2.2 = true ∧ ∃ k', Tn R q now (hy x y) (hx x) true k' ∧ pot (hy x y) (hx x) wy.length wx.length true k' + 1 ≤ pot x y wx.length wy.length kx ky) ∨
  ((pOut x).2.2 = false ∧ Tn R q now (hy x y) (hx x) ky kx ∧ pot (hy x y) (hx x) wy.length wx.length ky kx ≤ pot x y wx.length wy.length kx ky ∧ hy x y = y ∧ (pOut x).1 = x ∧ (pPick x).2.2 = [] ∧ x.du = false ∧ now - max x.he x.pr < 16) := by
 have n1 := t.tx.no
 have n2 := t.ty.no
 have p1 := t.tx.pr
 have p2 := t.ty.pr
 have q1 := t.tx.he
 have q2 := t.ty.he
 have rn := t.rn
 have yr := t.yr
 obtain ⟨f1, f2, f3, f4, f5, f6⟩ := out_fix t.gx
 obtain ⟨r1, r2, r3, r4, -⟩ := hx_f h
 have L := (lk_half h).sw
 have xb := h.rx.ok.b
 have xm := h.sw.lim
 have eT : EndT (hx x) now := (endT_read (endT_out t.tx h.ex).1 255).1
 have yT : EndT (hy x y) now := by
  unfold hy
  split
  ·exact endT_on t.ty h.ey.sq
  ·exact t.ty
 have gY : (hx x).sh.g = 3 := by show (pOut x).1.sh.g = 3; rw [f1]; exact t.gx
 have hhe : (hx x).he = x.he := f2
 have hpr : (hx x).pr = (pOut x).1.pr := rfl
 have hli : (hx x).li = x.li := f4
 have hnn : (hx x).no = x.no := f5
 have hsq : (hx x).sq = (pOut x).1.sq := rfl
 have rl : (hx x).rq.r.length ≤ 3841 := by omega
 rcases half_up h t.gx (.inl t.gy) q1.1 p1.1 (by omega) (by omega) with s | ⟨s1, s2, s3, s4, s5, s6⟩
 ·left
  refine ⟨s.s, ?_⟩
  have d3 : (hx x).du = fullB x := by rw [r3, s.xd]; rfl
  have ex := L.ex
  have okY : C12.Ok (hy x y).rq := L.rx.ok
  have eS : (hy x y).rq.b - ((hy x y).rq.r.length : Int) = y.rq.b - (y.rq.r.length : Int) := s.rs
  have ub := s.up.b
  have mk : ∀ k', G2 (hx x) (hy x y) → G3 q (hx x) (hy x y) → (k' = true → Kn R (hx x) (hy x y) ∨ (hy x y).du = true) → (k' = false → (hx x).he < R ∧ (hx x).pr < R) → ((hy x y).rq.r.length ≤ 3841 ∨ (hy x y).du = true) → Tn R q now (hy x y) (hx x) true k' := fun k' a1 a2 a3 a4 a5 => by
   refine ⟨s.g, gY, yT, eT, fun c hc hl k c1 c2 => ?_, a1, fun c hc hl => ?_, a2, fun _ => ⟨by rw [s.he]; omega, by rw [s.pr, s.he]; omega, by rw [s.b, r1], ?_⟩, a3, (fun q => by cases q), a4, rl, a5, t.rn, t.qn⟩
   ·obtain ⟨c', h', i1, i2, -, i4⟩ := s.fl c hc
    exact (r4 k).2 (t.g2y c' h' (i4 hl) k (by omega) (by omega))
   ·obtain ⟨c', h', i1, i2, i3, i4⟩ := s.fl c hc
    rcases t.g3y c' h' (i4 hl) with g | g
    ·left; omega
    ·right; rw [r1]; omega
   ·by_cases g : 4048 < x.rq.r.length
    ·right; rw [d3]; exact decide_eq_true g
    ·left
     have := s.li
     rw [lim_eq h.rx.ok (by omega)] at this
     rw [r1]; omega
  have bx := bi_bd x.du
  have by' := bi_bd y.du
  have bX := bi_bd (hy x y).du
  have bf := bi_bd (fullB x)
  have bF := bi_bd (fullB (hy x y))
  have bp := bi_bd (decide (x.pr < x.no))
  have bk := bi_bd (!kx)
  have bl := bi_bd (!ky)
  have bt : bi (!true) = 0 := rfl
  have fF : (hy x y).rq.r.length ≤ 4048 → bi (fullB (hy x y)) = 0 := fun g => by
   unfold fullB
   rw [decide_eq_false (by omega)]; rfl
  rcases s.dt with ⟨c, tt, pk, d1, d4, d2⟩ | ⟨e1, e2, ⟨a1, a2, a3⟩ | ⟨b1, b2, b3, b4⟩⟩
  ·have key := pk_b h t.g2x pk s.up okY d2
   have k3 := pk.cb
   have k4 := pk.ft
   refine ⟨true, mk true (fun c' hc hl k c1 c2 => ?_) (fun c' hc hl => ?_) (fun _ => .inr d1) (fun g => by cases g) (.inr d1), ?_⟩
   ·rcases pk.fl c' hc hl with g | ⟨g1, g2, g3⟩
    ·exact s.up.r k (t.g2x c' g hl k c1 c2)
    ·exact d2 k (by omega) (by omega)
   ·rcases pk.fl c' hc hl with g | ⟨g1, g2, g3⟩
    ·rcases t.g3x c' g hl with z | z
     ·exact .inl z
     ·right; omega
    ·right; omega
   ·unfold pot
    rw [r1, d3, s.pr, s.no, hpr, hnn, d4, d1, bt]
    have b1 : bi true = 1 := rfl
    rw [b1]
    have dl : kx = true → y.rq.b < (hy x y).rq.b := fun g => by have := (t.k1 g).b; omega
    have fl : bi (fullB (hy x y)) = 0 ∨ y.rq.b + 200 ≤ (hy x y).rq.b := by
     by_cases g : (hy x y).rq.r.length ≤ 4048
     ·exact .inl (fF g)
     ·right; omega
    cases kx
    ·have b2 : bi (!false) = 1 := rfl
     rw [b2]
     omega
    ·have := dl rfl
     rw [bt]
     omega
  ·refine ⟨kx, mk kx (fun c' hc hl k c1 c2 => ?_) (fun c' hc hl => ?_) (fun g => .inl ?_) (fun g => by rw [hhe, hpr, a3]; exact t.w1 g) (.inl (by rw [e2]; exact yr)), ?_⟩
   ·rw [hsq, e1] at hc
    rw [e2]
    exact t.g2x c' hc hl k c1 c2
   ·rw [hsq, e1] at hc
    rw [e2]
    exact t.g3x c' hc hl
   ·have kn := t.k1 g
    exact ⟨by rw [hhe]; exact kn.he, by rw [hhe, hpr, a3]; exact kn.pr, by rw [hsq, e1, e2]; exact kn.b, by rw [e2, hli, a2]; exact kn.li⟩
   ·unfold pot
    have b1 : bi true = 1 := rfl
    rw [r1, d3, s.pr, s.no, hpr, hnn, a3, a2, a1, bt, e2, b1, fF (by rw [e2]; omega)]
    omega
  ·refine ⟨true, mk true (fun c' hc hl k c1 c2 => ?_) (fun c' hc hl => ?_) (fun _ => .inr b2) (fun g => by cases g) (.inr b2), ?_⟩
   ·rw [hsq, e1] at hc
    rw [e2]
    exact t.g2x c' hc hl k c1 c2
   ·rw [hsq, e1] at hc
    rw [e2]
    exact t.g3x c' hc hl
   ·unfold pot
    have z1 : bi true = 1 := rfl
    have z0 : bi false = 0 := rfl
    rw [r1, d3, s.pr, s.no, hpr, hnn, b3, b2, b1, bt, e2, z1, z0, fF (by rw [e2]; omega), decide_eq_false (show ¬x.no < x.no by omega), decide_eq_true (show x.pr < x.no by omega), z0, z1]
    omega
 ·right
  have d3 : (hx x).du = fullB x := by rw [r3, s2, s5]; rfl
  have e1 : (hx x).sq = x.sq := by rw [hsq, s2]
  have e2 : (hx x).pr = x.pr := by rw [hpr, s2]
  refine ⟨s1, ?_, ?_, s3, s2, s4, s5, by omega⟩
  ·rw [s3]
   refine ⟨t.gy, gY, t.ty, eT, fun c hc hl k c1 c2 => (r4 k).2 (t.g2y c hc hl k c1 c2), fun c hc hl => t.g2x c (by rw [← e1]; exact hc) hl, fun c hc hl => by rw [r1]; exact t.g3y c hc hl, fun c hc hl => t.g3x c (by rw [← e1]; exact hc) hl, fun g => ?_, fun g => .inl ?_, t.w2, fun g => by rw [hhe, e2]; exact t.w1 g, rl, .inl yr, t.rn, t.qn⟩
   ·rcases t.k2 g with kn | kn
    ·refine ⟨kn.he, kn.pr, by rw [r1]; exact kn.b, .inl ?_⟩
     rw [r1]
     rcases kn.li with z | z
     ·exact z
     ·rw [s5] at z; cases z
    ·rw [s5] at kn; cases kn
   ·have kn := t.k1 g
    exact ⟨by rw [hhe]; exact kn.he, by rw [hhe, e2]; exact kn.pr, by rw [e1]; exact kn.b, by rw [hli]; exact kn.li⟩
  ·rw [s3]
   unfold pot
   have z0 : bi false = 0 := rfl
   have z1 : fullB y = false := decide_eq_false (by omega)
   rw [r1, d3, e2, hnn, z1, s5, z0]
   omega
end
end Go.Proofs.YtalpfhpeaaocmaaGreat
end
section
namespace Go.Proofs.YtalpfhpeaaocmaaGreat
open Sx Go.RowKit
/-- What is under way, and was sent of late, came. -/
def A2 (s : Int) (x y : Pp) : Prop := ∀ c ∈ x.sq.fl, c.l = false → c.s ≤ s ∨ ∀ k, c.f ≤ k → k < c.t → C12.Rcv y.rq k
section
variable {x y a b : Pp} {m o now s : Int} {wx wy rx ry : List UInt8} {g : C13.Sg}
theorem on_rq (s : Pp) (g : C13.Sg) : (pOn s g).rq = s.rq ∨ (pOn s g).du = true := by
 unfold pOn
 split
 ·exact .inl rfl
 ·split
  ·rw [pTook_eq]
   by_cases ht : g.t ≠ []
   ·right
    show ((C13.hasB g.f 1 || (decide (g.t ≠ []) || C13.hasB g.f 16)) || _) = true
    rw [decide_eq_true ht]
    simp
   ·left
    show (if g.t ≠ [] then _ else (pA _ g).rq) = _
    rw [if_neg ht]
    unfold pA
    split <;> rfl
  ·exact .inl rfl
theorem hy_f (h : Lk x y m o wx wy rx ry) : Up y.rq (hy x y).rq ∧ (∀ c ∈ (hy x y).sq.fl, ∃ c' ∈ y.sq.fl, c'.f ≤ c.f ∧ c.t ≤ c'.t ∧ c.s = c'.s ∧ (c.l = false → c'.l = false)) ∧ (hy x y).nx = y.nx ∧ ((hy x y).he = y.he ∨ (hy x y).he = y.no) ∧ ((hy x y).rq = y.rq ∨ (hy x y).du = true) := by
 obtain ⟨l1, l2⟩ := lk_out h
 unfold hy
 split
 ·next q =>
  obtain ⟨a1, a2, a3⟩ := l2 q
  have rq : (pOut x).1.rq = x.rq := (endI_out h.ex h.rx.ok).2.1
  obtain ⟨-, e2, e3, e4, -⟩ := on_same y (pOut x).2.1
  exact ⟨(lk_on l1 a1 a2 (by rw [rq]; exact a3)).2.1, on_fl h.ey.sq, e4, e3, on_rq _ _⟩
 ·exact ⟨Up.refl _, fun c hc => ⟨c, hc, Int.le_refl _, Int.le_refl _, rfl, id⟩, rfl, .inl rfl, .inl rfl⟩
theorem greet_f (hg : x.sh.g ≠ 3) : (pOut x).1.sq = x.sq ∧ (pOut x).1.du = x.du ∧ ((pOut x).2.2 = true → (pOut x).2.1 = C13.nOut x.sh ∧ C13.nSays x.sh = true) ∧ ((pOut x).2.2 = false → (pOut x).1 = x ∧ (C13.nSays x.sh = false ∨ x.no < x.nx)) := by
 have hu : ¬pUp x = true := fun q => hg (beq_iff_eq.1 q)
 unfold pOut
 rw [if_neg hu]
 unfold pGreet
 by_cases q : C13.nSays x.sh = false ∨ x.no < x.nx
 ·rw [if_pos q]
  exact ⟨rfl, rfl, fun k => (by cases k), fun _ => ⟨rfl, q⟩⟩
 ·rw [if_neg q]
  refine ⟨rfl, rfl, fun _ => ⟨rfl, ?_⟩, fun k => (by cases k)⟩
  cases z : C13.nSays x.sh
  ·exact absurd (.inl z) q
  ·rfl
theorem meet_half (h : Lk x y m o wx wy rx ry) (tx : EndT x now) (ty : EndT y now) (hg : x.sh.g = 3 → y.sh.g = 3 ∨ y.sh.g = 2) (a0 : A2 s x y) (a1 : A2 s y x) :
  EndT (hx x) now ∧ EndT (hy x y) now ∧ A2 s (hx x) (hy x y) ∧ A2 s (hy x y) (hx x) ∧ (hx x).sh = x.sh := by
 obtain ⟨o1, o2⟩ := endT_out tx h.ex
 obtain ⟨r1, r2, r3, r4, -⟩ := hx_f h
 obtain ⟨u1, u2, u3, u4, u5⟩ := hy_f h
 refine ⟨(endT_read o1 255).1, ?_, fun c hc hl => ?_, fun c hc hl => ?_, o2⟩
 ·unfold hy
  split
  ·exact endT_on ty h.ey.sq
  ·exact ty
 ·have hc : c ∈ (pOut x).1.sq.fl := hc
  have old : c ∈ x.sq.fl → c.s ≤ s ∨ ∀ k, c.f ≤ k → k < c.t → C12.Rcv (hy x y).rq k := fun q => (a0 c q hl).imp id fun z k k1 k2 => u1.r k (z k k1 k2)
  by_cases g3 : x.sh.g = 3
  ·have p1 := tx.pr
   have q1 := tx.he
   have n1 := tx.no
   rcases half_up h g3 (hg g3) q1.1 p1.1 (by omega) (by omega) with z | ⟨-, s2, -⟩
   ·rcases z.dt with ⟨c', tt, pk, -, -, d2⟩ | ⟨e1, -⟩
    ·rcases pk.fl c hc hl with q | ⟨q1, q2, -⟩
     ·exact old q
     ·exact .inr fun k k1 k2 => d2 k (by omega) (by omega)
    ·rw [e1] at hc; exact old hc
   ·rw [s2] at hc; exact old hc
  ·rw [(greet_f g3).1] at hc; exact old hc
 ·obtain ⟨c', h', i1, i2, i3, i4⟩ := u2 c hc
  rcases a1 c' h' (i4 hl) with z | z
  ·left; omega
  ·exact .inr fun k k1 k2 => (r4 k).2 (z k (by omega) (by omega))
/-- Two ends that meet: a asks. -/
structure Mt (m0 m1 s now : Int) (a b : Pp) (wx wy rx ry : List UInt8) : Prop where
 l : Lk a b m0 m1 wx wy rx ry
 t0 : EndT a now
 t1 : EndT b now
 h : Hs a b
 a0 : A2 s a b
 a1 : A2 s b a
variable {m0 m1 : Int}
theorem mt0 (h : Mt m0 m1 s now a b wx wy rx ry) : Mt m0 m1 s now (hx a) (hy a b) wx wy (rx ++ (pRead (pOut a).1 255).2) ry := by
 obtain ⟨l, t0, t1, hh, a0, a1⟩ := h
 have k1 := hh.k1
 have k2 := hh.k2
 obtain ⟨b1, b2, b3, b4, b5⟩ := meet_half l t0 t1 (fun g => by have := k2 g; omega) a0 a1
 have e : (pOut a).1.sh = a.sh := (endT_out t0 l.ex).2
 refine ⟨lk_half l, b1, b2, ?_, b3, b4⟩
 have h1 : Hs (pOut a).1 b := hs_of hh e rfl fun _ => rfl
 have key : Hs (pOut a).1 (hy a b) := by
  unfold hy
  split
  ·next q => exact (hs_b h1 l.ey.sh (out_fa hh l.ex.sh q)).1
  ·exact h1
 exact hs_of key rfl rfl fun _ => rfl
theorem mt1 (h : Mt m0 m1 s now a b wx wy rx ry) : Mt m0 m1 s now (hy b a) (hx b) wx wy rx (ry ++ (pRead (pOut b).1 255).2) := by
 obtain ⟨l, t0, t1, hh, a0, a1⟩ := h
 have k3 := hh.k3
 obtain ⟨b1, b2, b3, b4, b5⟩ := meet_half l.sw t1 t0 (fun g => .inl (k3 g)) a1 a0
 have e : (pOut b).1.sh = b.sh := (endT_out t1 l.ey).2
 refine ⟨(lk_half l.sw).sw, b2, b1, ?_, b4, b3⟩
 have h1 : Hs a (pOut b).1 := hs_of hh rfl e fun q => out_nx0 q
 have key : Hs (hy b a) (pOut b).1 := by
  unfold hy
  split
  ·next q => exact (hs_a h1 l.ex.sh (out_fb hh l.ey.sh q)).1
  ·exact h1
 exact hs_of key rfl rfl fun _ => rfl
theorem gchk_syn {g : C13.Sg} (f : g.f = 1 ∧ g.a = 0 ∨ g.f = 3) (p : g.p = 2) (e : g.e = 9) (w : g.w = 65535) (k : g.k = []) (t : g.t = []) : C13.gChk g = 0 := by
 have f4 : g.f = 1 ∨ g.f = 3 ∨ g.f = 2 ∨ g.f = 18 := by omega
 unfold C13.gChk
 rw [if_neg (by omega), if_neg (by omega), if_neg (by rw [k, t]; simp), if_neg]
 rintro (⟨h1, h2⟩ | ⟨-, h⟩)
 ·rw [k] at h1
  rcases f with ⟨-, q⟩ | q
  ·rcases h1 with z | z
   ·exact absurd z (by simp)
   ·exact z q
  ·rw [(has_2 f4).2 (by omega)] at h2; cases h2
 ·exact h t
theorem syn_on (l : Lk a b m0 m1 wx wy rx ry) (ga : a.sh.g = 1) (gb : b.sh.g = 0) (hs : (pOut a).2.2 = true) : (hy a b).sh.g = 2 := by
 have e := ((greet_f (x := a) (by omega)).2.2.1 hs).1
 have hc := l.ex.sh.chk
 have eo : C13.nOut a.sh = ⟨1, a.sh.p, a.sh.e, a.sh.m, 0, 65535, [], []⟩ := by unfold C13.nOut; rw [if_pos ⟨hc, ga⟩]
 rw [eo] at e
 have eh : hy a b = pOn b (pOut a).2.1 := by unfold hy; rw [if_pos hs]
 rw [eh]
 generalize (pOut a).2.1 = z at e
 have fit : C13.nFit b.sh z = true := by
  unfold C13.nFit
  exact decide_eq_true ⟨gchk_syn (by rw [e]; exact .inl ⟨rfl, rfl⟩) (by rw [e]; exact l.ex.sh.p) (by rw [e]; exact l.ex.sh.e) (by rw [e]) (by rw [e]) (by rw [e]), by rw [e, l.ey.sh.p]; exact l.ex.sh.p, by rw [e, l.ey.sh.e]; exact l.ex.sh.e⟩
 have zf : z.f = 1 := by rw [e]
 have f4 : z.f = 1 ∨ z.f = 3 ∨ z.f = 2 ∨ z.f = 18 := .inl zf
 have h1 := (has_1 f4).2 (.inl zf)
 have h2 : C13.hasB z.f 2 = false := by
  cases q : C13.hasB z.f 2
  ·rfl
  ·exact absurd zf ((has_2 f4).1 q)
 have g2 : (C13.nOn b.sh z).g = 2 := by
  unfold C13.nOn
  rw [if_neg (by rw [l.ey.sh.chk, fit]; simp; omega), if_neg (by rw [h1]; simp), has_8 f4, if_neg (by simp), if_neg (by omega), if_pos gb, if_pos h2]
  rfl
 have hd : pDead b = false := by unfold pDead; exact beq_eq_false_iff_ne.2 (by omega)
 unfold pOn
 rw [if_neg (by rw [hd, fit]; simp), if_neg (fun q => by have : (C13.nOn b.sh z).g = 3 := beq_iff_eq.1 q; omega)]
 exact g2
theorem synack_on (l : Lk a b m0 m1 wx wy rx ry) (ga : a.sh.g = 1 ∨ a.sh.g = 3) (gb : b.sh.g = 2) (hs : (pOut b).2.2 = true) : (hy b a).sh.g = 3 ∧ (hy b a).du = true := by
 have e := ((greet_f (x := b) (by omega)).2.2.1 hs).1
 have hc := l.ey.sh.chk
 have eo : C13.nOut b.sh = ⟨3, b.sh.p, b.sh.e, b.sh.m, C13.aAdd b.sh.h 1, 65535, [], []⟩ := by unfold C13.nOut; rw [if_neg (by omega), if_pos ⟨hc, gb⟩]
 rw [eo] at e
 have eh : hy b a = pOn a (pOut b).2.1 := by unfold hy; rw [if_pos hs]
 rw [eh]
 generalize (pOut b).2.1 = z at e
 have fit : C13.nFit a.sh z = true := by
  unfold C13.nFit
  exact decide_eq_true ⟨gchk_syn (by rw [e]; exact .inr rfl) (by rw [e]; exact l.ey.sh.p) (by rw [e]; exact l.ey.sh.e) (by rw [e]) (by rw [e]) (by rw [e]), by rw [e, l.ex.sh.p]; exact l.ey.sh.p, by rw [e, l.ex.sh.e]; exact l.ey.sh.e⟩
 have zf : z.f = 3 := by rw [e]
 have f4 : z.f = 1 ∨ z.f = 3 ∨ z.f = 2 ∨ z.f = 18 := .inr (.inl zf)
 have h1 := (has_1 f4).2 (.inr zf)
 have h2 := (has_2 f4).2 (by omega)
 have za : z.a = C13.aAdd a.sh.m 1 := by rw [e, l.ex.sh.m, l.ey.sh.h (.inl gb)]
 have g3 : (C13.nOn a.sh z).g = 3 := by
  rcases ga with q | q
  ·unfold C13.nOn
   rw [if_neg (by rw [l.ex.sh.chk, fit]; simp; omega), if_neg (by omega), has_8 f4, if_neg (by simp), if_pos q, if_pos ⟨h1, h2, za⟩]
   rfl
  ·rw [nOn_3 l.ex.sh q f4]; exact q
 have hd : pDead a = false := by unfold pDead; exact beq_eq_false_iff_ne.2 (by omega)
 unfold pOn
 rw [if_neg (by rw [hd, fit]; simp), if_pos (show pUp { a with he := a.no, sh := C13.nOn a.sh z } = true from beq_iff_eq.2 g3)]
 obtain ⟨t1, -, -, -, -, -, -, -, t9⟩ := took_same { a with he := a.no, sh := C13.nOn a.sh z } z
 exact ⟨by rw [t1]; exact g3, by rw [t9, h1]; rfl⟩
/-- How far they are, when a is to say something, and when b is. -/
def Zi (s : Int) (a b : Pp) : Prop := b.sh.g = 3 ∨ (a.sh.g = 3 ∧ b.sh.g = 2 ∧ a.du = true) ∨ (b.sh.g = 2 ∧ b.nx ≤ s + 64) ∨ (b.sh.g = 0 ∧ a.nx ≤ s + 64)
def Zm (s now : Int) (a b : Pp) : Prop := b.sh.g = 3 ∨ (b.sh.g = 2 ∧ b.nx ≤ s + 64) ∨ (b.sh.g = 0 ∧ a.nx ≤ s + 64 ∧ now < s + 64)
theorem up_says (h : Lk x y m o wx wy rx ry) (tx : EndT x now) (g3 : x.sh.g = 3) (hg : y.sh.g = 3 ∨ y.sh.g = 2) (hd : x.du = true) : (hy x y).sh.g = 3 := by
 have p1 := tx.pr
 have q1 := tx.he
 have n1 := tx.no
 rcases half_up h g3 hg q1.1 p1.1 (by omega) (by omega) with z | ⟨-, -, -, -, s5, -⟩
 ·exact z.g
 ·rw [hd] at s5; cases s5
theorem z0 (h : Mt m0 m1 s now a b wx wy rx ry) (hs : 0 ≤ s) (hz : Zi s a b) : Zm s now (hx a) (hy a b) := by
 have n0 := h.t0.no
 have k0 := h.h.k0
 have k2 := h.h.k2
 have k3 := h.h.k3
 have u3 := (hy_f h.l).2.2.1
 rcases hz with g | ⟨g1, g2, g3⟩ | ⟨g1, g2⟩ | ⟨g1, g2⟩
 ·left
  have p1 := h.t0.pr
  have q1 := h.t0.he
  rcases half_up h.l (k3 g) (.inl g) q1.1 p1.1 (by omega) (by omega) with z | ⟨-, -, s3, -⟩
  ·exact z.g
  ·rw [s3]; exact g
 ·exact .inl (up_says h.l h.t0 g1 (.inr g2) g3)
 ·have h' : (hy a b).sh.g = 2 ∨ (hy a b).sh.g = 3 := by
   unfold hy
   split
   ·next q =>
    obtain ⟨e, -⟩ := on_same b (pOut a).2.1
    rcases e with e | e
    ·left; rw [e]; exact g1
    ·rw [e]
     rcases nOn_2 h.l.ey.sh g1 (out_fa h.h h.l.ex.sh q).f with z | z
     ·exact .inl z
     ·exact .inr z.2
   ·exact .inl g1
  rcases h' with z | z
  ·exact .inr (.inl ⟨z, by rw [u3]; exact g2⟩)
  ·exact .inl z
 ·have ga : a.sh.g = 1 := by omega
  obtain ⟨-, -, gf, gs⟩ := greet_f (x := a) (by omega)
  cases q : (pOut a).2.2
  ·right; right
   obtain ⟨e1, e2⟩ := gs q
   have hn : C13.nSays a.sh = true := decide_eq_true ⟨h.l.ex.sh.chk, .inl ga⟩
   have eb : hy a b = b := by unfold hy; rw [q]; rfl
   rw [eb]
   refine ⟨g1, by show (pOut a).1.nx ≤ _; rw [e1]; exact g2, ?_⟩
   rcases e2 with z | z
   ·rw [hn] at z; cases z
   ·omega
  ·right; left
   exact ⟨syn_on h.l ga g1 q, by rw [u3, h.h.z g1]; omega⟩
theorem z1 (h : Mt m0 m1 s now a b wx wy rx ry) (hz : Zm s now a b) : Zi s (hy b a) (hx b) ∧ (s + 64 ≤ now → (hx b).sh.g = 3 ∨ ((hy b a).sh.g = 3 ∧ (hx b).sh.g = 2 ∧ (hy b a).du = true ∧ (pOut b).2.2 = true)) := by
 have n1 := h.t1.no
 have k0 := h.h.k0
 have k3 := h.h.k3
 have e : (hx b).sh = b.sh := (endT_out h.t1 h.l.ey).2
 rcases hz with g | ⟨g1, g2⟩ | ⟨g1, g2, g3⟩
 ·exact ⟨.inl (by rw [e]; exact g), fun _ => .inl (by rw [e]; exact g)⟩
 ·obtain ⟨-, -, gf, gs⟩ := greet_f (x := b) (by omega)
  cases q : (pOut b).2.2
  ·obtain ⟨e1, e2⟩ := gs q
   have hn : C13.nSays b.sh = true := decide_eq_true ⟨h.l.ey.sh.chk, .inr g1⟩
   have hlt : b.no < b.nx := by
    rcases e2 with z | z
    ·rw [hn] at z; cases z
    ·exact z
   exact ⟨.inr (.inr (.inl ⟨by rw [e]; exact g1, by show (pOut b).1.nx ≤ _; rw [e1]; exact g2⟩)), fun z => by omega⟩
  ·obtain ⟨z1, z2⟩ := synack_on h.l k0 g1 q
   exact ⟨.inr (.inl ⟨z1, by rw [e]; exact g1, z2⟩), fun _ => .inr ⟨z1, by rw [e]; exact g1, z2, rfl⟩⟩
 ·obtain ⟨-, -, gf, gs⟩ := greet_f (x := b) (by omega)
  cases q : (pOut b).2.2
  ·have ea : hy b a = a := by unfold hy; rw [q]; rfl
   exact ⟨.inr (.inr (.inr ⟨by rw [e]; exact g1, by rw [ea]; exact g2⟩)), fun z => by omega⟩
  ·have z := (of_decide_eq_true (gf q).2).2
   omega
end
end Go.Proofs.YtalpfhpeaaocmaaGreat
end
section
namespace Go.Proofs.YtalpfhpeaaocmaaGreat
open Sx Go.RowKit
def tH0 (t : Tk) : Tk := { t with e0 := hx t.e0, e1 := hy t.e0 t.e1, r0 := t.r0 ++ (pRead (pOut t.e0).1 255).2 }
def tH1 (t : Tk) : Tk := { t with e1 := hx t.e1, e0 := hy t.e1 t.e0, r1 := t.r1 ++ (pRead (pOut t.e1).1 255).2 }
def tIt (t : Tk) : Tk := tH1 (tH0 t)
def tSome (t : Tk) : Bool := (pOut t.e0).2.2 || (pOut (tH0 t).e1).2.2
def tLoop : Nat → Tk → Tk
 | 0, t => t
 | n + 1, t => if tSome t = true then tLoop n (tIt t) else tIt t
def tTick (t : Tk) : Tk := { t with e0 := pTick t.e0 (t.now + 1), e1 := pTick t.e1 (t.now + 1), now := t.now + 1 }
def tRound (t : Tk) : Tk := tLoop 300 (tTick t)
theorem loop_ind {P : Tk → Prop} (h : ∀ t, P t → P (tIt t)) : ∀ n t, P t → P (tLoop n t)
 | 0, t, p => p
 | n + 1, t, p => by
  unfold tLoop
  split
  ·exact loop_ind h n _ (h t p)
  ·exact h t p
theorem loop_ind1 {P Q : Tk → Prop} (h : ∀ t, P t → P (tIt t) ∧ Q (tIt t)) : ∀ n t, P t → P (tLoop (n + 1) t) ∧ Q (tLoop (n + 1) t)
 | 0, t, p => by
  unfold tLoop
  split
  ·exact h t p
  ·exact h t p
 | n + 1, t, p => by
  unfold tLoop
  split
  ·exact loop_ind1 h n _ (h t p).1
  ·exact h t p
/-- What goes on to hold of both. -/
def LkT (m0 m1 : Int) (t : Tk) : Prop := Lk t.e0 t.e1 m0 m1 t.w0 t.w1 t.r0 t.r1
section
variable {x y : Pp} {t : Tk} {m m0 m1 o now s R q : Int} {wx wy rx ry : List UInt8} {kx ky : Bool}
theorem lkT_h0 (h : LkT m0 m1 t) : LkT m0 m1 (tH0 t) := lk_half h
theorem lkT_h1 (h : LkT m0 m1 t) : LkT m0 m1 (tH1 t) := (lk_half h.sw).sw
theorem lkT_it (h : LkT m0 m1 t) : LkT m0 m1 (tIt t) := lkT_h1 (lkT_h0 h)
theorem lkT_tick (h : LkT m0 m1 t) (hn : t.now < 1000) : LkT m0 m1 (tTick t) :=
 (lk_tick (lk_tick h (now := t.now + 1) (by omega)).sw (now := t.now + 1) (by omega)).sw
theorem tk_f (h : EndT x now) (k : C11.KI x.sq wx) (hn : now < 1000) (hh : now + 1 - x.he < 200) :
  EndT (pTick x (now + 1)) (now + 1) ∧ (pTick x (now + 1)).sh = x.sh ∧ (pTick x (now + 1)).he = x.he ∧ (pTick x (now + 1)).pr = x.pr ∧ (pTick x (now + 1)).du = x.du ∧ (pTick x (now + 1)).rq = x.rq ∧ (pTick x (now + 1)).li = x.li ∧ (pTick x (now + 1)).sq.b = x.sq.b ∧ (pTick x (now + 1)).nx = x.nx ∧
  ∀ c ∈ (pTick x (now + 1)).sq.fl, c.l = false → c ∈ x.sq.fl ∧ (x.sh.g = 3 → now + 1 - 64 < c.s) := by
 obtain ⟨a1, a2, a3, a4, a5, a6, a7, a8⟩ := endT_tick h k hn hh
 refine ⟨a1, a2, a3, a5, a6, a7, (tick_cases x (now + 1)).2, ?_, a4, fun c hc hl => ?_⟩
 ·rcases a8 with e | ⟨e, -⟩ <;> rw [e] <;> rfl
 ·rcases a8 with e | ⟨e, g⟩
  ·rw [e] at hc
   have := C11.expire_all x.sq c hc
   rw [hl] at this; cases this
  ·rw [e] at hc
   refine ⟨hc, fun g3 => ?_⟩
   rcases g with g | g | g
   ·omega
   ·omega
   ·exact g c hc hl
theorem tn_tick (h : Lk x y m o wx wy rx ry) (t : Tn R q now x y kx ky) (hn : now < 1000) (h1 : now + 1 - x.he < 200) (h2 : now + 1 - y.he < 200) {q' : Int} (hq : q' = q ∨ (R ≤ now + 1 - 64 ∧ q ≤ R ∧ q' = 0 ∧ 0 ≤ now)) :
  Tn R q' (now + 1) (pTick x (now + 1)) (pTick y (now + 1)) kx ky ∧ pot (pTick x (now + 1)) (pTick y (now + 1)) wx.length wy.length kx ky ≤ pot x y wx.length wy.length kx ky + 4 := by
 obtain ⟨a1, a2, a3, a4, a5, a6, a7, a8, -, a9⟩ := tk_f t.tx h.ex.sq hn h1
 obtain ⟨b1, b2, b3, b4, b5, b6, b7, b8, -, b9⟩ := tk_f t.ty h.ey.sq hn h2
 have rn := t.rn
 have qn := t.qn
 refine ⟨⟨by rw [a2]; exact t.gx, by rw [b2]; exact t.gy, a1, b1, fun c hc hl => ?_, fun c hc hl => ?_, fun c hc hl => ?_, fun c hc hl => ?_, fun g => ?_, fun g => ?_, fun g => by rw [a3, a4]; exact t.w1 g, fun g => by rw [b3, b4]; exact t.w2 g, by rw [b6]; exact t.yr, by rw [a5, a6]; exact t.xr, by omega, by omega⟩, ?_⟩
 ·rw [b6]; exact t.g2x c (a9 c hc hl).1 hl
 ·rw [a6]; exact t.g2y c (b9 c hc hl).1 hl
 ·rw [b6]
  obtain ⟨z1, z2⟩ := a9 c hc hl
  have z2 := z2 t.gx
  rcases t.g3x c z1 hl with z | z
  ·rcases hq with e | e
   ·left; omega
   ·omega
  ·exact .inr z
 ·rw [a6]
  obtain ⟨z1, z2⟩ := b9 c hc hl
  have z2 := z2 t.gy
  rcases t.g3y c z1 hl with z | z
  ·rcases hq with e | e
   ·left; omega
   ·omega
  ·exact .inr z
 ·have k := t.k1 g
  exact ⟨by rw [a3]; exact k.he, by rw [a3, a4]; exact k.pr, by rw [a8, b6]; exact k.b, by rw [a7, b5, b6]; exact k.li⟩
 ·rcases t.k2 g with k | k
  ·left
   exact ⟨by rw [b3]; exact k.he, by rw [b3, b4]; exact k.pr, by rw [b8, a6]; exact k.b, by rw [b7, a5, a6]; exact k.li⟩
  ·right; rw [a5]; exact k
 ·unfold pot fullB
  rw [a4, a5, a6, b4, b5, b6]
  have c1 := bi_bd (decide (x.pr < (pTick x (now + 1)).no))
  have c2 := bi_bd (decide (y.pr < (pTick y (now + 1)).no))
  have c3 := bi_bd (decide (x.pr < x.no))
  have c4 := bi_bd (decide (y.pr < y.no))
  omega
theorem pot_bd (h : Lk x y m o wx wy rx ry) : 0 ≤ pot x y wx.length wy.length kx ky ∧ pot x y wx.length wy.length kx ky ≤ 16395 := by
 have a1 := h.ex.sq.dlen
 have a2 := h.ex.sq.dl
 have a3 := h.dx.bb
 have a4 := h.ry.bd
 have b1 := h.ey.sq.dlen
 have b2 := h.ey.sq.dl
 have b3 := h.dy.bb
 have b4 := h.rx.bd
 have c1 := bi_bd x.du
 have c2 := bi_bd y.du
 have c3 := bi_bd (fullB x)
 have c4 := bi_bd (decide (x.pr < x.no))
 have c5 := bi_bd (decide (y.pr < y.no))
 have c6 := bi_bd (!kx)
 have c7 := bi_bd (!ky)
 unfold pot
 omega
theorem still (h : Lk x y m o wx wy rx ry) (t : Tn R q now x y kx ky) (hp : (pPick x).2.2 = []) (hd : x.du = false) (hq : now - max x.he x.pr < 16) (hR : R + 15 ≤ now) (hy : y.du = false) : now - x.he < 16 ∧ (q ≤ 0 → x.sq.b = wx.length) := by
 have hk : kx = true := by
  cases e : kx
  ·have := t.w1 e; omega
  ·rfl
 have kn := t.k1 hk
 have k1 := kn.pr
 refine ⟨by omega, fun q0 => ?_⟩
 have hK := h.ex.sq
 have h2 := hK.bl
 rcases Int.lt_or_le x.sq.b wx.length with g | g
 ·exfalso
  have hno := h.ex.no
  have hw := h.ex.wn
  unfold C10.aOk at hw
  refine C11.pick_go hK h.dx.cov (now := x.no) (win := x.wn.w) (lim := x.li) (by omega) (fun c hc => ?_) g (by omega) (fun _ => ?_) hp
  ·cases hl : c.l
   ·have hF := C11.row_mem hK.fl c hc
    have f1 := hF.f
    have f2 := hF.ft
    have f3 := hF.tm
    have kb := kn.b
    rcases t.g3x c hc hl with z | z <;> omega
   ·rfl
  ·have kb := kn.b
   rcases kn.li with z | z
   ·omega
   ·rw [hy] at z; cases z
 ·omega
/-- One half: what grows. -/
theorem half_up' (h : Lk x y m o wx wy rx ry) (t : Tn R q now x y kx ky) : (hx x).he = x.he ∧ y.he ≤ (hy x y).he ∧ (hx x).sq.b = x.sq.b ∧ y.sq.b ≤ (hy x y).sq.b := by
 obtain ⟨f1, f2, f3, f4, f5, f6⟩ := out_fix t.gx
 have u4 := (hy_f h).2.2.2.1
 have n2 := t.ty.no
 have q2 := t.ty.he
 have n1 := t.tx.no
 have q1 := t.tx.he
 have p1 := t.tx.pr
 have bb := h.dy.bb
 refine ⟨f2, by omega, ?_, ?_⟩
 ·show (pOut x).1.sq.b = _
  rcases half_up h t.gx (.inl t.gy) q1.1 p1.1 (by omega) (by omega) with s | ⟨-, s2, -⟩
  ·rcases s.dt with ⟨c, tt, pk, -⟩ | ⟨e1, -⟩
   ·exact pk.b
   ·rw [e1]
  ·rw [s2]
 ·rcases half_up h t.gx (.inl t.gy) q1.1 p1.1 (by omega) (by omega) with s | ⟨-, -, s3, -⟩
  ·rw [s.b]; exact bb
  ·rw [s3]; exact Int.le_refl _
def TnT (R q : Int) (kx ky : Bool) (t : Tk) : Prop := Tn R q t.now t.e0 t.e1 kx ky
def potT (t : Tk) (kx ky : Bool) : Int := pot t.e0 t.e1 t.w0.length t.w1.length kx ky
def Dn (t : Tk) : Prop := t.e0.sq.b = t.w0.length ∧ t.e1.sq.b = t.w1.length
structure Go1 (t z : Tk) : Prop where
 he0 : t.e0.he ≤ z.e0.he
 he1 : t.e1.he ≤ z.e1.he
 b0 : t.e0.sq.b ≤ z.e0.sq.b
 b1 : t.e1.sq.b ≤ z.e1.sq.b
 no : z.now = t.now
 w0 : z.w0 = t.w0
 w1 : z.w1 = t.w1
theorem Go1.refl (t : Tk) : Go1 t t := ⟨Int.le_refl _, Int.le_refl _, Int.le_refl _, Int.le_refl _, rfl, rfl, rfl⟩
theorem Go1.tr {a b c : Tk} (h : Go1 a b) (k : Go1 b c) : Go1 a c :=
 ⟨Int.le_trans h.he0 k.he0, Int.le_trans h.he1 k.he1, Int.le_trans h.b0 k.b0, Int.le_trans h.b1 k.b1, k.no.trans h.no, k.w0.trans h.w0, k.w1.trans h.w1⟩
/-- Nobody said anything, in the end. -/
def Qu (R q p : Int) (z : Tk) : Prop := ∃ kx ky, TnT R q kx ky z ∧ potT z kx ky ≤ p ∧ (R + 15 ≤ z.now → (z.now - z.e0.he < 16 ∧ z.now - z.e1.he < 16) ∧ (q ≤ 0 → Dn z))
theorem go1_it (l : LkT m0 m1 t) (h : TnT R q kx ky t) : Go1 t (tIt t) ∧ ((tSome t = true ∧ ∃ kx' ky', TnT R q kx' ky' (tIt t) ∧ potT (tIt t) kx' ky' + 1 ≤ potT t kx ky) ∨ (tSome t = false ∧ Qu R q (potT t kx ky) (tIt t))) := by
 have l1 : Lk (hy t.e0 t.e1) (hx t.e0) m1 m0 t.w1 t.w0 t.r1 (t.r0 ++ (pRead (pOut t.e0).1 255).2) := (lk_half l).sw
 obtain ⟨u1, u2, u3, u4⟩ := half_up' l h
 have mk : ∀ {k1 k2 : Bool}, Tn R q t.now (hy t.e0 t.e1) (hx t.e0) k1 k2 → Go1 t (tIt t) := fun T => by
  obtain ⟨x1, x2, x3, x4⟩ := half_up' l1 T
  exact ⟨by rw [u1] at x2; exact x2, by show _ ≤ (hx (hy t.e0 t.e1)).he; rw [x1]; exact u2, by rw [u3] at x4; exact x4, by show _ ≤ (hx (hy t.e0 t.e1)).sq.b; rw [x3]; exact u4, rfl, rfl, rfl⟩
 have es : tSome t = ((pOut t.e0).2.2 || (pOut (hy t.e0 t.e1)).2.2) := rfl
 have ep : ∀ k1 k2, potT (tIt t) k1 k2 = pot (hy (hy t.e0 t.e1) (hx t.e0)) (hx (hy t.e0 t.e1)) t.w0.length t.w1.length k1 k2 := fun _ _ => rfl
 have et : potT t kx ky = pot t.e0 t.e1 t.w0.length t.w1.length kx ky := rfl
 rcases tn_half l h with ⟨s, k', T, P⟩ | ⟨s, T, P, i1, i2, i3, i4, i5⟩
 ·refine ⟨mk T, .inl ⟨by rw [es, s]; rfl, ?_⟩⟩
  rcases tn_half l1 T with ⟨s', k'', T', P'⟩ | ⟨s', T', P', -⟩
  ·exact ⟨_, _, T', by rw [ep, et]; omega⟩
  ·exact ⟨_, _, T', by rw [ep, et]; omega⟩
 ·refine ⟨mk T, ?_⟩
  rcases tn_half l1 T with ⟨s', k'', T', P'⟩ | ⟨s', T', P', j1, j2, j3, j4, j5⟩
  ·exact .inl ⟨by rw [es, s, s']; rfl, _, _, T', by rw [ep, et]; omega⟩
  ·refine .inr ⟨by rw [es, s, s']; rfl, _, _, T', by rw [ep, et]; omega, fun hR => ?_⟩
   obtain ⟨r1, r2, r3, r4, -⟩ := hx_f l
   have d0 : (hx t.e0).du = false := by
    rw [r3, i2, i4]
    have z := h.xr
    rw [i4] at z
    refine decide_eq_false ?_
    rcases z with z | z
    ·omega
    ·cases z
   have d1 : t.e1.du = false := by rw [i1] at j4; exact j4
   obtain ⟨a1, a2⟩ := still l h i3 i4 i5 hR d1
   obtain ⟨b1, b2⟩ := still l1 T j3 j4 j5 hR d0
   obtain ⟨x1, -, x3, -⟩ := half_up' l1 T
   have z0 : (tIt t).e0 = hx t.e0 := j1
   have z1 : (tIt t).e1 = hx (hy t.e0 t.e1) := rfl
   have zn : (tIt t).now = t.now := rfl
   rw [z0, z1, u1, x1, zn]
   refine ⟨⟨a1, b1⟩, fun q0 => ⟨?_, ?_⟩⟩
   ·rw [z0, u3]; exact a2 q0
   ·rw [z1, x3]; exact b2 q0
theorem go_loop : ∀ (n : Nat) (t : Tk) (kx ky : Bool), LkT m0 m1 t → TnT R q kx ky t →
  Go1 t (tLoop n t) ∧ ((∃ kx' ky', TnT R q kx' ky' (tLoop n t) ∧ potT (tLoop n t) kx' ky' + n ≤ potT t kx ky) ∨ Qu R q (potT t kx ky) (tLoop n t))
 | 0, t, kx, ky, l, h => ⟨Go1.refl t, .inl ⟨kx, ky, h, by show potT t kx ky + (0 : Int) ≤ _; omega⟩⟩
 | n + 1, t, kx, ky, l, h => by
  obtain ⟨g, k⟩ := go1_it l h
  unfold tLoop
  rcases k with ⟨s, kx', ky', T', P'⟩ | ⟨s, k⟩
  ·rw [if_pos s]
   obtain ⟨g2, k2⟩ := go_loop n (tIt t) kx' ky' (lkT_it l) T'
   refine ⟨g.tr g2, ?_⟩
   rcases k2 with ⟨k3, k4, T2, P2⟩ | ⟨k3, k4, T2, P2, Q⟩
   ·exact .inl ⟨k3, k4, T2, by push_cast; omega⟩
   ·exact .inr ⟨k3, k4, T2, by omega, Q⟩
  ·rw [if_neg (by rw [s]; simp)]
   exact ⟨g, .inr k⟩
def Rd (n : Nat) (t : Tk) : Prop := min n t.w1.length ≤ t.r0.length ∧ min n t.w0.length ≤ t.r1.length
theorem lk_all (h : Lk x y m o wx wy rx ry) (hb : x.sq.b = wx.length) : y.rq.b = wx.length := by
 have h1 := h.dx.bb
 have h2 := h.ry.bd
 omega
theorem half_rd (h : Lk x y m o wx wy rx ry) (hb : y.sq.b = wy.length) : min (rx.length + 255) wy.length ≤ (rx ++ (pRead (pOut x).1 255).2).length := by
 have h1 := lk_all h.sw hb
 have h2 := (hx_f h).2.2.2.2
 have h3 := h.rx.ol
 have h4 : C12.rS x.rq = x.rq.b - x.rq.r.length := rfl
 have h5 := h.rx.ok.b
 rw [h2, List.length_append, List.length_take]
 omega
theorem rd_it (n : Nat) (l : LkT m0 m1 t) (g : Go1 t (tIt t)) (hb : Dn t) (hn : Rd n t) : Rd (n + 255) (tIt t) := by
 have l1 : Lk (hy t.e0 t.e1) (hx t.e0) m1 m0 t.w1 t.w0 t.r1 (t.r0 ++ (pRead (pOut t.e0).1 255).2) := (lk_half l).sw
 have r0 := half_rd l hb.2
 have l2 := lkT_it l
 have e0 : (hx t.e0).sq.b = t.w0.length := by
  have z1 := l1.ey.sq.bl
  have z2 := lk_all l hb.1
  have z3 : t.e0.sq.b ≤ (hx t.e0).sq.b := by
   show _ ≤ (pOut t.e0).1.sq.b
   unfold pOut
   split
   ·unfold pSpeak
    split
    ·next ht =>
     rcases C11.pick_v l.ex.sq t.e0.no t.e0.wn.w t.e0.li with ⟨-, q⟩ | q
     ·exact absurd q ht
     ·show _ ≤ (C11.rPick _ _ _ _).1.b
      rw [q.b]; exact Int.le_refl _
    ·split
     ·exact Int.le_refl _
     ·split <;> exact Int.le_refl _
   ·unfold pGreet
    split <;> exact Int.le_refl _
  have := hb.1
  omega
 have r1 := half_rd l1 e0
 obtain ⟨n0, n1⟩ := hn
 refine ⟨?_, ?_⟩
 ·show min (n + 255) t.w1.length ≤ (t.r0 ++ (pRead (pOut t.e0).1 255).2).length
  omega
 ·show min (n + 255) t.w0.length ≤ (t.r1 ++ (pRead (pOut (hy t.e0 t.e1)).1 255).2).length
  omega
end
end Go.Proofs.YtalpfhpeaaocmaaGreat
end
