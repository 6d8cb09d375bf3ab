/-
Part 9 of 9 of the proof of pipeEnds: the lemmas that it needs, of the texts S9, S10, S19, S20, S21, RPipeEnds. No condition but those that each lemma names.
-/
import Derived.Test.YtalpfhpeaaocmaaGreatE8
import Derived.Test.YtalpfhpeaaocmaaGreatRows
import Derived.ProofKit
import Derived.Below
import Derived.Test.YtalpfhpeaaocmaaGreatE1
import Derived.Test.YtalpfhpeaaocmaaGreatE2
import Derived.Test.YtalpfhpeaaocmaaGreatE3
import Derived.Test.YtalpfhpeaaocmaaGreatE4
import Derived.Test.YtalpfhpeaaocmaaGreatE5
import Derived.Test.YtalpfhpeaaocmaaGreatE6
import Derived.Test.YtalpfhpeaaocmaaGreatE7

set_option linter.unusedSimpArgs false
set_option linter.unusedVariables false
set_option maxRecDepth 100000
set_option maxHeartbeats 1000000
section
namespace Go.Proofs.YtalpfhpeaaocmaaGreat
open Sx Go.RowKit
theorem same20w (a : Pp) (d : Bool) (k1 : FnOK Tryz.prog 35 [.d (C11.sqD a.sq), .d (C11.sqD a.sq)] [] (.d (.bool true)) []) (k2 : FnOK Tryz.prog 36 [.d (C12.rqD a.rq), .d (C12.rqD a.rq)] [] (.d (.bool true)) []) : FnOK Tryz.prog 20 ([.d (ppD a), .d (ppD { a with du := d })]) ([]) (.d (.bool (a.du == d))) ([]) := by
 refine fnOK_wp (p := (FnOK Tryz.prog 35 [AV.d (C11.sqD a.sq), AV.d (C11.sqD a.sq)] [] (vB true) []) ∧ (rf (D.bool false)) ∧ (FnOK Tryz.prog 36 [AV.d (C12.rqD a.rq), AV.d (C12.rqD a.rq)] [] (vB true) []) ∧ (rf (D.bool false)) ∧ (D.bool (a.no == a.no) = D.bool true) ∧ (D.bool (a.he == a.he) = D.bool true) ∧ (D.bool (a.nx == a.nx) = D.bool true) ∧ (D.bool (a.pr == a.pr) = D.bool true) ∧ (rf (D.bool true)) ∧ (D.bool (a.sh.g == a.sh.g && (a.sh.p == a.sh.p && (a.sh.e == a.sh.e && (a.sh.m == a.sh.m && (a.sh.h == a.sh.h && true))))) = D.bool true) ∧ (D.bool (a.rt.s == a.rt.s && (a.rt.v == a.rt.v && (a.rt.k == a.rt.k && (a.rt.h == a.rt.h && true)))) = D.bool true) ∧ (D.bool (a.wn.w == a.wn.w && (a.wn.t == a.wn.t && (a.wn.p == a.wn.p && true))) = D.bool true) ∧ (D.bool (a.li == a.li) = D.bool true) ∧ (rf (D.bool (a.du == d))) ∧ (rf (vB (a.du == d))) ∧ True) (h := {chain := true, H := [(1, [(4, .call [] (.d (.bool true)) []), (6, .val (.bool false)), (11, .call [] (.d (.bool true)) []), (13, .val (.bool false))]), (3, [(5, .val (.bool true)), (12, .val (.bool true)), (19, .val (.bool true)), (26, .val (.bool true))]), (4, [(1, .val (.bool true)), (8, .val (.bool true)), (15, .val (.bool true)), (22, .val (.bool true)), (29, .val (.bool true)), (35, .val (.bool (a.du == d)))])]}) (subs := []) (ws := []) (ρ := []) (by kernel_rfl) ?_
 repeat' (with_reducible first|exact ⟨⟩|apply And.intro|(first|apply zA|apply zB|apply zC|apply zD|apply zE|apply zF|apply zG)<;>intro)
 all_goals first | exact k1 | exact k2 | rfl | (refine congrArg D.bool ?_; simp; done) | skip
theorem same20 (a : Pp) (ok : C11.SqOk a.sq) (hp : a.rq.p.length < 1000000) (d : Bool) : FnOK Tryz.prog 20 [.d (ppD a), .d (ppD { a with du := d })] [] (.d (.bool (a.du == d))) [] := by
 have k1 := C11.same29 a.sq a.sq ok
 have k2 := C12.same19 a.rq a.rq hp
 rw [decide_eq_true rfl] at k1 k2
 exact same20w a d k1 k2
def a0 : Pp := ⟨⟨0, 0, 0, 5, 0⟩, ⟨0, [], 0, [], []⟩, ⟨0, [], []⟩, ⟨0, 0, false, 0⟩, ⟨96, 1024, 0⟩, 4096, 0, 0, 0, 0, false⟩
def b0 : Pp := ⟨⟨0, 0, 0, 4294967295, 0⟩, ⟨0, [], 0, [], []⟩, ⟨0, [], []⟩, ⟨0, 0, false, 0⟩, ⟨96, 1024, 0⟩, 4096, 0, 0, 0, 0, false⟩
def a1 : Pp := ⟨⟨1, 0, 0, 5, 0⟩, ⟨0, [], 0, [], []⟩, ⟨0, [], []⟩, ⟨0, 0, false, 0⟩, ⟨96, 1024, 0⟩, 4096, 0, 0, 0, 0, false⟩
def a2 : Pp := ⟨⟨1, 0, 0, 5, 0⟩, ⟨0, [], 0, [], []⟩, ⟨0, [], []⟩, ⟨0, 0, false, 1⟩, ⟨96, 1024, 0⟩, 4096, 0, 0, 8, 0, false⟩
def b3 : Pp := ⟨⟨2, 0, 0, 4294967295, 5⟩, ⟨0, [], 0, [], []⟩, ⟨0, [], []⟩, ⟨0, 0, false, 0⟩, ⟨96, 1024, 0⟩, 4096, 0, 0, 0, 0, false⟩
def b4 : Pp := ⟨⟨2, 0, 0, 4294967295, 5⟩, ⟨0, [], 0, [], []⟩, ⟨0, [], []⟩, ⟨0, 0, false, 1⟩, ⟨96, 1024, 0⟩, 4096, 0, 0, 8, 0, false⟩
def a5 : Pp := ⟨⟨3, 0, 0, 5, 4294967295⟩, ⟨0, [], 0, [], []⟩, ⟨0, [], []⟩, ⟨0, 0, false, 1⟩, ⟨96, 1024, 0⟩, 4096, 0, 0, 8, 0, true⟩
def a6 : Pp := ⟨⟨3, 0, 0, 5, 4294967295⟩, ⟨0, [104, 105], 0, [], []⟩, ⟨0, [], []⟩, ⟨0, 0, false, 1⟩, ⟨96, 1024, 0⟩, 4096, 0, 0, 8, 0, true⟩
def a7 : Pp := ⟨⟨3, 0, 0, 5, 4294967295⟩, ⟨0, [104, 105], 2, [⟨0, 2, 0, 1, false⟩], []⟩, ⟨0, [], []⟩, ⟨0, 0, false, 1⟩, ⟨96, 1024, 0⟩, 4096, 0, 0, 8, 0, false⟩
def b8 : Pp := ⟨⟨3, 0, 0, 4294967295, 5⟩, ⟨0, [], 0, [], []⟩, ⟨2, [104, 105], []⟩, ⟨0, 0, false, 1⟩, ⟨96, 1024, 0⟩, 4096, 0, 0, 8, 0, true⟩
def b9 : Pp := ⟨⟨3, 0, 0, 4294967295, 5⟩, ⟨0, [], 0, [], []⟩, ⟨2, [], []⟩, ⟨0, 0, false, 1⟩, ⟨96, 1024, 0⟩, 4096, 0, 0, 8, 0, true⟩
def b10 : Pp := ⟨⟨3, 0, 0, 4294967295, 5⟩, ⟨0, [], 0, [], []⟩, ⟨2, [], []⟩, ⟨0, 0, false, 1⟩, ⟨96, 1024, 0⟩, 4096, 0, 0, 8, 0, false⟩
def a11 : Pp := ⟨⟨3, 0, 0, 5, 4294967295⟩, ⟨2, [], 2, [], []⟩, ⟨0, [], []⟩, ⟨0, 0, true, 0⟩, ⟨98, 1024, 0⟩, 4098, 0, 0, 8, 0, false⟩
def a12 : Pp := ⟨⟨4, 0, 0, 5, 4294967295⟩, ⟨2, [], 2, [], []⟩, ⟨0, [], []⟩, ⟨0, 0, true, 0⟩, ⟨98, 1024, 0⟩, 4098, 0, 0, 8, 0, false⟩
def a13 : Pp := ⟨⟨3, 0, 0, 5, 4294967295⟩, ⟨2, [], 2, [], []⟩, ⟨0, [], []⟩, ⟨0, 0, true, 0⟩, ⟨98, 1024, 0⟩, 4098, 7, 0, 8, 0, false⟩
def z14 : Pp := ⟨⟨0, 0, 0, 0, 0⟩, ⟨0, [], 0, [], []⟩, ⟨0, [], []⟩, ⟨0, 0, false, 0⟩, ⟨0, 0, 0⟩, 0, 0, 0, 0, 0, false⟩
def x2 : C13.Sg := ⟨1, 0, 0, 5, 0, 65535, [], []⟩
def x4 : C13.Sg := ⟨3, 0, 0, 4294967295, 6, 65535, [], []⟩
def x7 : C13.Sg := ⟨2, 0, 0, 6, 0, 4096, [], [104, 105]⟩
def x10 : C13.Sg := ⟨2, 0, 0, 0, 8, 4096, [], []⟩
def inR (s : Pp) : Bool :=
 decide (-9223372036854775808 ≤ s.sq.b ∧ s.sq.b < 9223372036854775808) && (decide (-9223372036854775808 ≤ s.sq.n ∧ s.sq.n < 9223372036854775808) && (decide (s.sq.fl.length < 10) && (decide (s.sq.cm.length < 10) && (decide (s.sq.d.length < 10) &&
 (decide (0 ≤ s.rq.b ∧ s.rq.b ≤ 10) && (decide (s.rq.r.length < 10) && (decide (s.rq.p = []) && (decide (-10000 ≤ s.wn.w ∧ s.wn.w < 10000) && decide (-10000 ≤ s.li ∧ s.li < 10000)))))))))
theorem inR_r {s : Pp} (h : inR s = true) : PpR s := by
 unfold inR at h
 simp only [Bool.and_eq_true, decide_eq_true_eq] at h
 obtain ⟨h1, h2, h3, h4, h5, h6, h7, h8, h9, h10⟩ := h
 have e : C12.rHeld s.rq = s.rq.r.length := by unfold C12.rHeld; rw [h8]; rfl
 exact ⟨⟨h1, h2, by omega, by omega, by omega⟩, by omega, by omega, ⟨by omega, by omega, by rw [h8]; decide, fun x hx => by rw [h8] at hx; cases hx⟩, by omega, by rw [h8]; decide, by omega, by omega, by omega⟩
theorem sgr (x : C13.Sg) (h : x.k = []) (f : 0 ≤ x.f ∧ x.f < 256) (t : x.t.length < 100) : SgR x := ⟨f, ⟨[], h, by decide⟩, by omega⟩
theorem aw7  : FnOK Tryz.prog 7 ([]) ([]) (.d (.bool true)) ([]) := by
 refine fnOK_wp (p := (FnOK Tryz.prog 22 [vI 0, vI 0, vW 5] [] (AV.tup [AV.d (pxD (0 : Int) (0 : Int) (0 : Int) (5 : Int) (0 : Int) (0 : Int) [] (0 : Int) [] [] (0 : Int) [] [] (0 : Int) (0 : Int) false (0 : Int) (96 : Int) (1024 : Int) (0 : Int) (4096 : Int) (0 : Int) (0 : Int) (0 : Int) (0 : Int) false), vI 0]) []) ∧ (FnOK Tryz.prog 22 [vI 0, vI 0, vW 4294967295] [] (AV.tup [AV.d (pxD (0 : Int) (0 : Int) (0 : Int) (4294967295 : Int) (0 : Int) (0 : Int) [] (0 : Int) [] [] (0 : Int) [] [] (0 : Int) (0 : Int) false (0 : Int) (96 : Int) (1024 : Int) (0 : Int) (4096 : Int) (0 : Int) (0 : Int) (0 : Int) (0 : Int) false), vI 0]) []) ∧ (FnOK Tryz.prog 23 [AV.d (pxD (0 : Int) (0 : Int) (0 : Int) (5 : Int) (0 : Int) (0 : Int) [] (0 : Int) [] [] (0 : Int) [] [] (0 : Int) (0 : Int) false (0 : Int) (96 : Int) (1024 : Int) (0 : Int) (4096 : Int) (0 : Int) (0 : Int) (0 : Int) (0 : Int) false)] [] (AV.d (pxD (1 : Int) (0 : Int) (0 : Int) (5 : Int) (0 : Int) (0 : Int) [] (0 : Int) [] [] (0 : Int) [] [] (0 : Int) (0 : Int) false (0 : Int) (96 : Int) (1024 : Int) (0 : Int) (4096 : Int) (0 : Int) (0 : Int) (0 : Int) (0 : Int) false)) []) ∧ (FnOK Tryz.prog 16 [AV.d (pxD (1 : Int) (0 : Int) (0 : Int) (5 : Int) (0 : Int) (0 : Int) [] (0 : Int) [] [] (0 : Int) [] [] (0 : Int) (0 : Int) false (0 : Int) (96 : Int) (1024 : Int) (0 : Int) (4096 : Int) (0 : Int) (0 : Int) (0 : Int) (0 : Int) false)] [] (AV.tup [AV.d (pxD (1 : Int) (0 : Int) (0 : Int) (5 : Int) (0 : Int) (0 : Int) [] (0 : Int) [] [] (0 : Int) [] [] (0 : Int) (0 : Int) false (1 : Int) (96 : Int) (1024 : Int) (0 : Int) (4096 : Int) (0 : Int) (0 : Int) (8 : Int) (0 : Int) false), AV.d (.agg [D.int .u8 1, D.int .i64 0, D.int .i64 0, D.int .u32 5, D.int .u32 0, D.int .i64 65535, D.sl [], D.str []]), vB true]) []) ∧ (FnOK Tryz.prog 17 [AV.d (pxD (0 : Int) (0 : Int) (0 : Int) (4294967295 : Int) (0 : Int) (0 : Int) [] (0 : Int) [] [] (0 : Int) [] [] (0 : Int) (0 : Int) false (0 : Int) (96 : Int) (1024 : Int) (0 : Int) (4096 : Int) (0 : Int) (0 : Int) (0 : Int) (0 : Int) false), AV.d (.agg [D.int .u8 1, D.int .i64 0, D.int .i64 0, D.int .u32 5, D.int .u32 0, D.int .i64 65535, D.sl [], D.str []])] [] (AV.d (pxD (2 : Int) (0 : Int) (0 : Int) (4294967295 : Int) (5 : Int) (0 : Int) [] (0 : Int) [] [] (0 : Int) [] [] (0 : Int) (0 : Int) false (0 : Int) (96 : Int) (1024 : Int) (0 : Int) (4096 : Int) (0 : Int) (0 : Int) (0 : Int) (0 : Int) false)) []) ∧ (FnOK Tryz.prog 16 [AV.d (pxD (2 : Int) (0 : Int) (0 : Int) (4294967295 : Int) (5 : Int) (0 : Int) [] (0 : Int) [] [] (0 : Int) [] [] (0 : Int) (0 : Int) false (0 : Int) (96 : Int) (1024 : Int) (0 : Int) (4096 : Int) (0 : Int) (0 : Int) (0 : Int) (0 : Int) false)] [] (AV.tup [AV.d (pxD (2 : Int) (0 : Int) (0 : Int) (4294967295 : Int) (5 : Int) (0 : Int) [] (0 : Int) [] [] (0 : Int) [] [] (0 : Int) (0 : Int) false (1 : Int) (96 : Int) (1024 : Int) (0 : Int) (4096 : Int) (0 : Int) (0 : Int) (8 : Int) (0 : Int) false), AV.d (.agg [D.int .u8 3, D.int .i64 0, D.int .i64 0, D.int .u32 4294967295, D.int .u32 6, D.int .i64 65535, D.sl [], D.str []]), vB true]) []) ∧ (FnOK Tryz.prog 17 [AV.d (pxD (1 : Int) (0 : Int) (0 : Int) (5 : Int) (0 : Int) (0 : Int) [] (0 : Int) [] [] (0 : Int) [] [] (0 : Int) (0 : Int) false (1 : Int) (96 : Int) (1024 : Int) (0 : Int) (4096 : Int) (0 : Int) (0 : Int) (8 : Int) (0 : Int) false), AV.d (.agg [D.int .u8 3, D.int .i64 0, D.int .i64 0, D.int .u32 4294967295, D.int .u32 6, D.int .i64 65535, D.sl [], D.str []])] [] (AV.d (pxD (3 : Int) (0 : Int) (0 : Int) (5 : Int) (4294967295 : Int) (0 : Int) [] (0 : Int) [] [] (0 : Int) [] [] (0 : Int) (0 : Int) false (1 : Int) (96 : Int) (1024 : Int) (0 : Int) (4096 : Int) (0 : Int) (0 : Int) (8 : Int) (0 : Int) true)) []) ∧ (FnOK Tryz.prog 15 [AV.d (pxD (3 : Int) (0 : Int) (0 : Int) (5 : Int) (4294967295 : Int) (0 : Int) [] (0 : Int) [] [] (0 : Int) [] [] (0 : Int) (0 : Int) false (1 : Int) (96 : Int) (1024 : Int) (0 : Int) (4096 : Int) (0 : Int) (0 : Int) (8 : Int) (0 : Int) true), vS [(104 : UInt8), (105 : UInt8)]] [] (AV.tup [AV.d (pxD (3 : Int) (0 : Int) (0 : Int) (5 : Int) (4294967295 : Int) (0 : Int) [(104 : UInt8), (105 : UInt8)] (0 : Int) [] [] (0 : Int) [] [] (0 : Int) (0 : Int) false (1 : Int) (96 : Int) (1024 : Int) (0 : Int) (4096 : Int) (0 : Int) (0 : Int) (8 : Int) (0 : Int) true), vI 2]) []) ∧ (FnOK Tryz.prog 16 [AV.d (pxD (3 : Int) (0 : Int) (0 : Int) (5 : Int) (4294967295 : Int) (0 : Int) [(104 : UInt8), (105 : UInt8)] (0 : Int) [] [] (0 : Int) [] [] (0 : Int) (0 : Int) false (1 : Int) (96 : Int) (1024 : Int) (0 : Int) (4096 : Int) (0 : Int) (0 : Int) (8 : Int) (0 : Int) true)] [] (AV.tup [AV.d (.agg [D.int .u8 3, D.int .i64 0, D.int .i64 0, D.int .u32 5, D.int .u32 4294967295, D.int .i64 0, D.str [(104 : UInt8), (105 : UInt8)], D.int .i64 2, D.sl [D.agg [D.int .i64 0, D.int .i64 2, D.int .i64 0, D.int .i64 1, D.bool false]], D.sl [], D.int .i64 0, D.str [], D.sl [], D.int .i64 0, D.int .i64 0, D.bool false, D.int .i64 1, D.int .i64 96, D.int .i64 1024, D.int .i64 0, D.int .i64 4096, D.int .i64 0, D.int .i64 0, D.int .i64 8, D.int .i64 0, D.bool false]), AV.d (.agg [D.int .u8 2, D.int .i64 0, D.int .i64 0, D.int .u32 6, D.int .u32 0, D.int .i64 4096, D.sl [], D.str [(104 : UInt8), (105 : UInt8)]]), vB true]) []) ∧ (FnOK Tryz.prog 17 [AV.d (pxD (2 : Int) (0 : Int) (0 : Int) (4294967295 : Int) (5 : Int) (0 : Int) [] (0 : Int) [] [] (0 : Int) [] [] (0 : Int) (0 : Int) false (1 : Int) (96 : Int) (1024 : Int) (0 : Int) (4096 : Int) (0 : Int) (0 : Int) (8 : Int) (0 : Int) false), AV.d (.agg [D.int .u8 2, D.int .i64 0, D.int .i64 0, D.int .u32 6, D.int .u32 0, D.int .i64 4096, D.sl [], D.str [(104 : UInt8), (105 : UInt8)]])] [] (AV.d (pxD (3 : Int) (0 : Int) (0 : Int) (4294967295 : Int) (5 : Int) (0 : Int) [] (0 : Int) [] [] (2 : Int) [(104 : UInt8), (105 : UInt8)] [] (0 : Int) (0 : Int) false (1 : Int) (96 : Int) (1024 : Int) (0 : Int) (4096 : Int) (0 : Int) (0 : Int) (8 : Int) (0 : Int) true)) []) ∧ (FnOK Tryz.prog 18 [AV.d (pxD (3 : Int) (0 : Int) (0 : Int) (4294967295 : Int) (5 : Int) (0 : Int) [] (0 : Int) [] [] (2 : Int) [(104 : UInt8), (105 : UInt8)] [] (0 : Int) (0 : Int) false (1 : Int) (96 : Int) (1024 : Int) (0 : Int) (4096 : Int) (0 : Int) (0 : Int) (8 : Int) (0 : Int) true)] [] (vI 2) []) ∧ (FnOK Tryz.prog 19 [AV.d (pxD (3 : Int) (0 : Int) (0 : Int) (4294967295 : Int) (5 : Int) (0 : Int) [] (0 : Int) [] [] (2 : Int) [(104 : UInt8), (105 : UInt8)] [] (0 : Int) (0 : Int) false (1 : Int) (96 : Int) (1024 : Int) (0 : Int) (4096 : Int) (0 : Int) (0 : Int) (8 : Int) (0 : Int) true), vI 9] [] (AV.tup [AV.d (pxD (3 : Int) (0 : Int) (0 : Int) (4294967295 : Int) (5 : Int) (0 : Int) [] (0 : Int) [] [] (2 : Int) [] [] (0 : Int) (0 : Int) false (1 : Int) (96 : Int) (1024 : Int) (0 : Int) (4096 : Int) (0 : Int) (0 : Int) (8 : Int) (0 : Int) true), vS [(104 : UInt8), (105 : UInt8)]]) []) ∧ (FnOK Tryz.prog 16 [AV.d (pxD (3 : Int) (0 : Int) (0 : Int) (4294967295 : Int) (5 : Int) (0 : Int) [] (0 : Int) [] [] (2 : Int) [] [] (0 : Int) (0 : Int) false (1 : Int) (96 : Int) (1024 : Int) (0 : Int) (4096 : Int) (0 : Int) (0 : Int) (8 : Int) (0 : Int) true)] [] (AV.tup [AV.d (pxD (3 : Int) (0 : Int) (0 : Int) (4294967295 : Int) (5 : Int) (0 : Int) [] (0 : Int) [] [] (2 : Int) [] [] (0 : Int) (0 : Int) false (1 : Int) (96 : Int) (1024 : Int) (0 : Int) (4096 : Int) (0 : Int) (0 : Int) (8 : Int) (0 : Int) false), AV.d (.agg [D.int .u8 2, D.int .i64 0, D.int .i64 0, D.int .u32 0, D.int .u32 8, D.int .i64 4096, D.sl [], D.str []]), vB true]) []) ∧ (FnOK Tryz.prog 17 [AV.d (.agg [D.int .u8 3, D.int .i64 0, D.int .i64 0, D.int .u32 5, D.int .u32 4294967295, D.int .i64 0, D.str [(104 : UInt8), (105 : UInt8)], D.int .i64 2, D.sl [D.agg [D.int .i64 0, D.int .i64 2, D.int .i64 0, D.int .i64 1, D.bool false]], D.sl [], D.int .i64 0, D.str [], D.sl [], D.int .i64 0, D.int .i64 0, D.bool false, D.int .i64 1, D.int .i64 96, D.int .i64 1024, D.int .i64 0, D.int .i64 4096, D.int .i64 0, D.int .i64 0, D.int .i64 8, D.int .i64 0, D.bool false]), AV.d (.agg [D.int .u8 2, D.int .i64 0, D.int .i64 0, D.int .u32 0, D.int .u32 8, D.int .i64 4096, D.sl [], D.str []])] [] (AV.d (pxD (3 : Int) (0 : Int) (0 : Int) (5 : Int) (4294967295 : Int) (2 : Int) [] (2 : Int) [] [] (0 : Int) [] [] (0 : Int) (0 : Int) true (0 : Int) (98 : Int) (1024 : Int) (0 : Int) (4098 : Int) (0 : Int) (0 : Int) (8 : Int) (0 : Int) false)) []) ∧ (FnOK Tryz.prog 22 [vI 4, vI 0, vW 0] [] (AV.tup [AV.d (pxD (0 : Int) (0 : Int) (0 : Int) (0 : Int) (0 : Int) (0 : Int) [] (0 : Int) [] [] (0 : Int) [] [] (0 : Int) (0 : Int) false (0 : Int) (0 : Int) (0 : Int) (0 : Int) (0 : Int) (0 : Int) (0 : Int) (0 : Int) (0 : Int) false), vI 8]) []) ∧ (rf (D.bool true)) ∧ (rf (D.bool true)) ∧ (rf (D.bool true)) ∧ (rf (D.bool true)) ∧ (rf (D.bool true)) ∧ (rf (D.bool true)) ∧ (rf (D.bool true)) ∧ (rf (D.bool true)) ∧ (rf (D.bool true)) ∧ (rf (D.bool true)) ∧ (rf (D.bool true)) ∧ (rf (D.bool true)) ∧ (rf (D.bool true)) ∧ (rf (D.bool true)) ∧ (rf (D.bool true)) ∧ (rf (D.bool true)) ∧ (rf (D.bool true)) ∧ (FnOK Tryz.prog 13 [AV.d (pxD (3 : Int) (0 : Int) (0 : Int) (5 : Int) (4294967295 : Int) (2 : Int) [] (2 : Int) [] [] (0 : Int) [] [] (0 : Int) (0 : Int) true (0 : Int) (98 : Int) (1024 : Int) (0 : Int) (4098 : Int) (0 : Int) (0 : Int) (8 : Int) (0 : Int) false)] [] (vB true) []) ∧ (rf (D.bool true)) ∧ (FnOK Tryz.prog 12 [AV.d (pxD (3 : Int) (0 : Int) (0 : Int) (5 : Int) (4294967295 : Int) (2 : Int) [] (2 : Int) [] [] (0 : Int) [] [] (0 : Int) (0 : Int) true (0 : Int) (98 : Int) (1024 : Int) (0 : Int) (4098 : Int) (0 : Int) (0 : Int) (8 : Int) (0 : Int) false)] [] (vB true) []) ∧ (rf (D.bool true)) ∧ (FnOK Tryz.prog 12 [AV.d (pxD (3 : Int) (0 : Int) (0 : Int) (4294967295 : Int) (5 : Int) (0 : Int) [] (0 : Int) [] [] (2 : Int) [] [] (0 : Int) (0 : Int) false (1 : Int) (96 : Int) (1024 : Int) (0 : Int) (4096 : Int) (0 : Int) (0 : Int) (8 : Int) (0 : Int) false)] [] (vB true) []) ∧ (rf (D.bool true)) ∧ (FnOK Tryz.prog 21 [AV.d (pxD (3 : Int) (0 : Int) (0 : Int) (5 : Int) (4294967295 : Int) (2 : Int) [] (2 : Int) [] [] (0 : Int) [] [] (0 : Int) (0 : Int) true (0 : Int) (98 : Int) (1024 : Int) (0 : Int) (4098 : Int) (0 : Int) (0 : Int) (8 : Int) (0 : Int) false)] [] (vI 4096) []) ∧ (rf (D.bool true)) ∧ (rf (D.bool true)) ∧ (rf (D.bool true)) ∧ (FnOK Tryz.prog 14 [AV.d (pxD (3 : Int) (0 : Int) (0 : Int) (5 : Int) (4294967295 : Int) (2 : Int) [] (2 : Int) [] [] (0 : Int) [] [] (0 : Int) (0 : Int) true (0 : Int) (98 : Int) (1024 : Int) (0 : Int) (4098 : Int) (0 : Int) (0 : Int) (8 : Int) (0 : Int) false)] [] (AV.d (pxD (4 : Int) (0 : Int) (0 : Int) (5 : Int) (4294967295 : Int) (2 : Int) [] (2 : Int) [] [] (0 : Int) [] [] (0 : Int) (0 : Int) true (0 : Int) (98 : Int) (1024 : Int) (0 : Int) (4098 : Int) (0 : Int) (0 : Int) (8 : Int) (0 : Int) false)) []) ∧ (FnOK Tryz.prog 21 [AV.d (pxD (4 : Int) (0 : Int) (0 : Int) (5 : Int) (4294967295 : Int) (2 : Int) [] (2 : Int) [] [] (0 : Int) [] [] (0 : Int) (0 : Int) true (0 : Int) (98 : Int) (1024 : Int) (0 : Int) (4098 : Int) (0 : Int) (0 : Int) (8 : Int) (0 : Int) false)] [] (vI 0) []) ∧ (rf (D.bool true)) ∧ (FnOK Tryz.prog 24 [AV.d (pxD (3 : Int) (0 : Int) (0 : Int) (5 : Int) (4294967295 : Int) (2 : Int) [] (2 : Int) [] [] (0 : Int) [] [] (0 : Int) (0 : Int) true (0 : Int) (98 : Int) (1024 : Int) (0 : Int) (4098 : Int) (0 : Int) (0 : Int) (8 : Int) (0 : Int) false), vI 7] [] (AV.d (pxD (3 : Int) (0 : Int) (0 : Int) (5 : Int) (4294967295 : Int) (2 : Int) [] (2 : Int) [] [] (0 : Int) [] [] (0 : Int) (0 : Int) true (0 : Int) (98 : Int) (1024 : Int) (0 : Int) (4098 : Int) (7 : Int) (0 : Int) (8 : Int) (0 : Int) false)) []) ∧ (rf (D.bool true)) ∧ (FnOK Tryz.prog 20 [AV.d (pxD (3 : Int) (0 : Int) (0 : Int) (4294967295 : Int) (5 : Int) (0 : Int) [] (0 : Int) [] [] (2 : Int) [] [] (0 : Int) (0 : Int) false (1 : Int) (96 : Int) (1024 : Int) (0 : Int) (4096 : Int) (0 : Int) (0 : Int) (8 : Int) (0 : Int) true), AV.d (pxD (3 : Int) (0 : Int) (0 : Int) (4294967295 : Int) (5 : Int) (0 : Int) [] (0 : Int) [] [] (2 : Int) [] [] (0 : Int) (0 : Int) false (1 : Int) (96 : Int) (1024 : Int) (0 : Int) (4096 : Int) (0 : Int) (0 : Int) (8 : Int) (0 : Int) true)] [] (vB true) []) ∧ (rf (D.bool true)) ∧ (FnOK Tryz.prog 20 [AV.d (pxD (3 : Int) (0 : Int) (0 : Int) (4294967295 : Int) (5 : Int) (0 : Int) [] (0 : Int) [] [] (2 : Int) [] [] (0 : Int) (0 : Int) false (1 : Int) (96 : Int) (1024 : Int) (0 : Int) (4096 : Int) (0 : Int) (0 : Int) (8 : Int) (0 : Int) true), AV.d (pxD (3 : Int) (0 : Int) (0 : Int) (4294967295 : Int) (5 : Int) (0 : Int) [] (0 : Int) [] [] (2 : Int) [] [] (0 : Int) (0 : Int) false (1 : Int) (96 : Int) (1024 : Int) (0 : Int) (4096 : Int) (0 : Int) (0 : Int) (8 : Int) (0 : Int) false)] [] (vB false) []) ∧ (rf (D.bool true)) ∧ (rf (D.bool true)) ∧ (rf (vB true)) ∧ True) (h := {chain := true, H := [(1, [(0, .call [] (.tup [.d (ppD a0), .d (.int .i64 0)]) [])]), (2, [(0, .call [] (.tup [.d (ppD b0), .d (.int .i64 0)]) [])]), (3, [(1, .call [] (.d (ppD a1)) [])]), (4, [(1, .call [] (.tup [.d (ppD a2), .d (C13.sgD x2), .d (.bool true)]) [])]), (5, [(2, .call [] (.d (ppD b3)) [])]), (6, [(1, .call [] (.tup [.d (ppD b4), .d (C13.sgD x4), .d (.bool true)]) [])]), (7, [(2, .call [] (.d (ppD a5)) [])]), (8, [(1, .call [] (.tup [.d (ppD a6), .d (.int .i64 2)]) [])]), (9, [(1, .call [] (.tup [.d (ppD a7), .d (C13.sgD x7), .d (.bool true)]) [])]), (10, [(2, .call [] (.d (ppD b8)) [])]), (11, [(1, .call [] (.d (.int .i64 2)) [])]), (12, [(1, .call [] (.tup [.d (ppD b9), .d (.str [104, 105])]) [])]), (13, [(1, .call [] (.tup [.d (ppD b10), .d (C13.sgD x10), .d (.bool true)]) [])]), (14, [(2, .call [] (.d (ppD a11)) [])]), (15, [(0, .call [] (.tup [.d (ppD z14), .d (.int .i64 8)]) [])]), (16, [(2, .val (.bool true)), (6, .val (.bool true)), (9, .val (.bool true)), (14, .val (.bool true)), (17, .val (.bool true)), (22, .val (.bool true)), (27, .val (.bool true)), (31, .val (.bool true)), (34, .val (.bool true)), (39, .val (.bool true)), (44, .val (.bool true)), (49, .val (.bool true)), (53, .val (.bool true)), (57, .val (.bool true)), (60, .val (.bool true)), (65, .val (.bool true)), (70, .val (.bool true)), (74, .val (.bool true)), (78, .val (.bool true)), (82, .val (.bool true)), (87, .val (.bool true)), (91, .val (.bool true)), (97, .val (.bool true)), (103, .val (.bool true)), (109, .val (.bool true)), (114, .val (.bool true)), (120, .val (.bool true)), (122, .val (.bool true)), (72, .call [] (.d (.bool true)) []), (76, .call [] (.d (.bool true)) []), (80, .call [] (.d (.bool true)) []), (84, .call [] (.d (.int .i64 4096)) []), (99, .call [] (.d (ppD a12)) []), (100, .call [] (.d (.int .i64 0)) []), (105, .call [] (.d (ppD a13)) []), (112, .call [] (.d (.bool true)) []), (117, .call [] (.d (.bool false)) [])])]}) (subs := []) (ws := []) (ρ := []) (by kernel_rfl) ?_
 have r0 : PpR b0 := inR_r rfl
 have r1 : PpR a1 := inR_r rfl
 have r2 : PpR a2 := inR_r rfl
 have r3 : PpR b3 := inR_r rfl
 have r4 : PpR b4 := inR_r rfl
 have r5 : PpR a5 := inR_r rfl
 have r6 : PpR a6 := inR_r rfl
 have r7 : PpR a7 := inR_r rfl
 have r8 : PpR b8 := inR_r rfl
 have r9 : PpR b9 := inR_r rfl
 have r11 : PpR a11 := inR_r rfl
 have c1 : FnOK Tryz.prog 22 [.d (.int .i64 0), .d (.int .i64 0), .d (.int .u32 5)] [] (.tup [.d (ppD a0), .d (.int .i64 0)]) [] := new22 0 0 5 rfl
 have c2 : FnOK Tryz.prog 22 [.d (.int .i64 0), .d (.int .i64 0), .d (.int .u32 4294967295)] [] (.tup [.d (ppD b0), .d (.int .i64 0)]) [] := new22 0 0 4294967295 rfl
 have c3 : FnOK Tryz.prog 23 [.d (ppD a0)] [] (.d (ppD a1)) [] := fnOK_rv (open23 a0) (by kernel_rfl)
 have c4 : FnOK Tryz.prog 16 [.d (ppD a1)] [] (.tup [.d (ppD a2), .d (C13.sgD x2), .d (.bool true)]) [] := fnOK_rv (out16 a1 r1) (by kernel_rfl)
 have c5 : FnOK Tryz.prog 17 [.d (ppD b0), .d (C13.sgD x2)] [] (.d (ppD b3)) [] := fnOK_rv (on17 b0 r0 x2 (sgr x2 rfl (by decide) (by decide))) (by kernel_rfl)
 have c6 : FnOK Tryz.prog 16 [.d (ppD b3)] [] (.tup [.d (ppD b4), .d (C13.sgD x4), .d (.bool true)]) [] := fnOK_rv (out16 b3 r3) (by kernel_rfl)
 have c7 : FnOK Tryz.prog 17 [.d (ppD a2), .d (C13.sgD x4)] [] (.d (ppD a5)) [] := fnOK_rv (on17 a2 r2 x4 (sgr x4 rfl (by decide) (by decide))) (by kernel_rfl)
 have c8 : FnOK Tryz.prog 15 [.d (ppD a5), .d (.str [104, 105])] [] (.tup [.d (ppD a6), .d (.int .i64 2)]) [] := fnOK_rv (write15 a5 r5.sq [104, 105] (by decide)) (by kernel_rfl)
 have c9 : FnOK Tryz.prog 16 [.d (ppD a6)] [] (.tup [.d (ppD a7), .d (C13.sgD x7), .d (.bool true)]) [] := fnOK_rv (out16 a6 r6) (by kernel_rfl)
 have c10 : FnOK Tryz.prog 17 [.d (ppD b4), .d (C13.sgD x7)] [] (.d (ppD b8)) [] := fnOK_rv (on17 b4 r4 x7 (sgr x7 rfl (by decide) (by decide))) (by kernel_rfl)
 have c11 := ready18 b8
 have c12 : FnOK Tryz.prog 19 [.d (ppD b8), .d (.int .i64 9)] [] (.tup [.d (ppD b9), .d (.str [104, 105])]) [] := fnOK_rv (read19 b8 r8.rq r8.rb (by decide) 9) (by kernel_rfl)
 have c13 : FnOK Tryz.prog 16 [.d (ppD b9)] [] (.tup [.d (ppD b10), .d (C13.sgD x10), .d (.bool true)]) [] := fnOK_rv (out16 b9 r9) (by kernel_rfl)
 have c14 : FnOK Tryz.prog 17 [.d (ppD a7), .d (C13.sgD x10)] [] (.d (ppD a11)) [] := fnOK_rv (on17 a7 r7 x10 (sgr x10 rfl (by decide) (by decide))) (by kernel_rfl)
 have c15 : FnOK Tryz.prog 22 [.d (.int .i64 4), .d (.int .i64 0), .d (.int .u32 0)] [] (.tup [.d (ppD z14), .d (.int .i64 8)]) [] := new22n 4 0 0 rfl
 have c16 := idle13 a11
 have c17 := alive12 a11
 have c18 := alive12 b10
 have c19 : FnOK Tryz.prog 21 [.d (ppD a11)] [] (.d (.int .i64 4096)) [] := fnOK_rv (room21 a11) (by kernel_rfl)
 have c20 : FnOK Tryz.prog 14 [.d (ppD a11)] [] (.d (ppD a12)) [] := fnOK_rv (kill14 a11) (by kernel_rfl)
 have c21 : FnOK Tryz.prog 21 [.d (ppD a12)] [] (.d (.int .i64 0)) [] := fnOK_rv (room21 a12) (by kernel_rfl)
 have c22 : FnOK Tryz.prog 24 [.d (ppD a11), .d (.int .i64 7)] [] (.d (ppD a13)) [] := fnOK_rv (tick24 a11 r11.sq 7) (by kernel_rfl)
 have c23 := same20 b9 r9.sq (by decide) true
 have c24 := same20 b9 r9.sq (by decide) false
 repeat' (with_reducible first|exact ⟨⟩|apply And.intro|(first|apply zA|apply zB|apply zC|apply zD|apply zE|apply zF|apply zG)<;>intro)
 all_goals first | exact c1 | exact c2 | exact c3 | exact c4 | exact c5 | exact c6 | exact c7 | exact c8 | exact c9 | exact c10 | exact c11 | exact c12 | exact c13 | exact c14 | exact c15 | exact c16 | exact c17 | exact c18 | exact c19 | exact c20 | exact c21 | exact c22 | exact c23 | exact c24 | rfl | decide | skip
end Go.Proofs.YtalpfhpeaaocmaaGreat
end
section
namespace Go.Proofs.YtalpfhpeaaocmaaGreat
open Sx Go.RowKit
def IP (l : List De) (t : Tk) (j : Nat) : St := ⟨[(1, .d (.sl (l.map deD))), (5, .ptr 0 0), (7, .d (.int .i64 j))], [(0, tkB 1 2 t), (1, .row 8 (t.s0.map C13.sgD)), (2, .row 8 (t.s1.map C13.sgD))]⟩
def tn (a b : Int) (l : List De) (j : Nat) : Tk := (l.take j).foldl tDeed (t0 a b)
theorem tn_succ {a b : Int} {l : List De} {j : Nat} {d : De} (h : l[j]? = some d) : tn a b l (j + 1) = tDeed (tn a b l j) d := by
 unfold tn; rw [take_snoc h, List.foldl_append]; rfl
def DeOk (d : De) : Prop := (0 ≤ d.k ∧ d.k < 256) ∧ (0 ≤ d.n ∧ d.n < 256)
theorem ti_tn {a b : Int} (ha : 0 ≤ a ∧ a < 4294967296) (hb : 0 ≤ b ∧ b < 4294967296) {l : List De} (hl : l.length ≤ 100) (hs : ∀ d ∈ l, d.t.length ≤ 200) : ∀ j : Nat, j ≤ l.length → TI a b (tn a b l j) j
 | 0, _ => ti_zero ha hb
 | j + 1, h => by
  have hn := get_of (show j < l.length by omega)
  rw [tn_succ hn]
  exact ti_deed (ti_tn ha hb hl hs j (by omega)) (by omega) _ (hs _ (get_mem hn))
theorem fewB_iff {l : List De} {n : Nat} : fewB l n = true ↔ l.length ≤ n ∧ ∀ d ∈ l, d.t.length ≤ 200 := by
 unfold fewB
 rw [Bool.and_eq_true, decide_eq_true_eq, List.all_eq_true]
 simp only [decide_eq_true_eq]
theorem de_of {y : D} (h : ∃ ds, CK.hasL [.int .u8, .int .u8, .str] ds ∧ (if true = true then y = .agg ds else ds = [y])) : ∃ a : De, y = deD a ∧ DeOk a := by
 obtain ⟨ds, rfl, h0⟩ := ckA h
 obtain ⟨d1, r1, rfl, g1, h1⟩ := hasL_cons h0
 obtain ⟨v1, rfl, a1, b1⟩ := has_u8 g1
 obtain ⟨d2, r2, rfl, g2, h2⟩ := hasL_cons h1
 obtain ⟨v2, rfl, a2, b2⟩ := has_u8 g2
 obtain ⟨d3, r3, rfl, g3, h3⟩ := hasL_cons h2
 obtain ⟨v3, rfl, a3⟩ := has_str g3
 obtain rfl := hasL_nil h3
 exact ⟨⟨v1, v2, v3⟩, rfl, ⟨a1, b1⟩, a2, b2⟩
theorem des_of (x0 : D) (s0 : ∃ ds, CK.hasL [.sl true [.int .u8, .int .u8, .str]] ds ∧ (if false = true then x0 = .agg ds else ds = [x0])) : ∃ l : List De, x0 = .sl (l.map deD) ∧ ∀ a ∈ l, DeOk a := by
 obtain ⟨K, rfl, -, h⟩ := has_slOf deD DeOk (ck1 s0) (fun y h => de_of h)
 exact ⟨K, rfl, h⟩
theorem two_of (x0 : D) (s0 : ∃ ds, CK.hasL [.int .u32, .int .u32] ds ∧ (if true = true then x0 = .agg ds else ds = [x0])) : ∃ a b : Int, x0 = .agg [.int .u32 a, .int .u32 b] ∧ (0 ≤ a ∧ a < 4294967296) ∧ (0 ≤ b ∧ b < 4294967296) := by
 obtain ⟨ds, rfl, h0⟩ := ckA s0
 obtain ⟨d1, r1, rfl, g1, h1⟩ := hasL_cons h0
 obtain ⟨v1, rfl, a1, b1⟩ := has_u32 g1
 obtain ⟨d2, r2, rfl, g2, h2⟩ := hasL_cons h1
 obtain ⟨v2, rfl, a2, b2⟩ := has_u32 g2
 obtain rfl := hasL_nil h2
 exact ⟨v1, v2, rfl, ⟨a1, b1⟩, a2, b2⟩
end Go.Proofs.YtalpfhpeaaocmaaGreat
end
section
namespace Go.Proofs.YtalpfhpeaaocmaaGreat
open Sx Go.RowKit
def MtT (m0 m1 s : Int) (t : Tk) : Prop := Mt m0 m1 s t.now t.e0 t.e1 t.w0 t.w1 t.r0 t.r1
def Rl (t : Tk) : Prop := t.e1.rq.r.length ≤ 3841 ∧ (t.e0.rq.r.length ≤ 3841 ∨ t.e0.du = true)
def tRs : Nat → Tk → Tk
 | 0, t => t
 | n + 1, t => tRound (tRs n t)
theorem tRs_succ (n : Nat) (t : Tk) : tRs (n + 1) t = tRound (tRs n t) := rfl
theorem tRound_eq (t : Tk) : tRound t = tLoop 300 (tTick t) := rfl
def G3T (t : Tk) : Prop := t.e1.sh.g = 3 ∨ (t.e0.sh.g = 3 ∧ t.e1.sh.g = 2 ∧ t.e0.du = true)
section
variable {t z u : Tk} {m0 m1 s q n : Int} {kx ky : Bool}
theorem mt_it (h : MtT m0 m1 s t) : MtT m0 m1 s (tIt t) := mt1 (mt0 h)
theorem z_it (h : MtT m0 m1 s t) (hs : 0 ≤ s) (hz : Zi s t.e0 t.e1) : Zi s (tIt t).e0 (tIt t).e1 ∧ (s + 64 ≤ t.now → (tIt t).e1.sh.g = 3 ∨ (G3T (tIt t) ∧ tSome t = true)) := by
 have zm := z0 h hs hz
 obtain ⟨a, b⟩ := z1 (mt0 h) zm
 refine ⟨a, fun hn => (b hn).imp id fun k => ⟨.inr ⟨k.1, k.2.1, k.2.2.1⟩, ?_⟩⟩
 show ((pOut t.e0).2.2 || (pOut (hy t.e0 t.e1)).2.2) = true
 rw [k.2.2.2, Bool.or_true]
theorem g3_it (h : MtT m0 m1 s t) (g : G3T t) : (tIt t).e1.sh.g = 3 := by
 have key : (hy t.e0 t.e1).sh.g = 3 := by
  rcases g with g | ⟨g1, g2, g3⟩
  ·have p1 := h.t0.pr
   have q1 := h.t0.he
   have n0 := h.t0.no
   rcases half_up h.l (h.h.k3 g) (.inl g) q1.1 p1.1 (by omega) (by omega) with z | ⟨-, -, s3, -⟩
   ·exact z.g
   ·rw [s3]; exact g
  ·exact up_says h.l h.t0 g1 (.inr g2) g3
 have e := (endT_out (mt0 h).t1 (mt0 h).l.ey).2
 show (pOut (hy t.e0 t.e1)).1.sh.g = 3
 rw [e]; exact key
theorem rl_it (l : LkT m0 m1 t) : Rl (tIt t) := by
 have l1 : Lk (hy t.e0 t.e1) (hx t.e0) m1 m0 t.w1 t.w0 t.r1 (t.r0 ++ (pRead (pOut t.e0).1 255).2) := (lk_half l).sw
 have a := (hx_f l).2.1
 have b := (hx_f l1).2.1
 have c := (hy_f l1).2.2.2.2
 have d := l1.rx.ok.b
 have e := l.rx.ok.b
 refine ⟨?_, ?_⟩
 ·show (hx (hy t.e0 t.e1)).rq.r.length ≤ 3841
  omega
 ·show (hy (hy t.e0 t.e1) (hx t.e0)).rq.r.length ≤ 3841 ∨ (hy (hy t.e0 t.e1) (hx t.e0)).du = true
  rcases c with c | c
  ·left; rw [c]; omega
  ·exact .inr c
theorem mt_tick (h : MtT m0 m1 s t) (hn : t.now < 199) (hz : Zi s t.e0 t.e1) : MtT m0 m1 s (tTick t) ∧ Zi s (tTick t).e0 (tTick t).e1 := by
 have q0 := h.t0.he
 have q1 := h.t1.he
 obtain ⟨a1, a2, a3, a4, a5, a6, a7, a8, a9, a10⟩ := tk_f h.t0 h.l.ex.sq (by omega) (by omega)
 obtain ⟨b1, b2, b3, b4, b5, b6, b7, b8, b9, b10⟩ := tk_f h.t1 h.l.ey.sq (by omega) (by omega)
 refine ⟨⟨lkT_tick h.l (by omega), a1, b1, hs_of h.h a2 b2 fun _ => b9, fun c hc hl => ?_, fun c hc hl => ?_⟩, ?_⟩
 ·show _ ∨ ∀ k, c.f ≤ k → k < c.t → C12.Rcv (pTick t.e1 (t.now + 1)).rq k
  rw [b6]; exact h.a0 c (a10 c hc hl).1 hl
 ·show _ ∨ ∀ k, c.f ≤ k → k < c.t → C12.Rcv (pTick t.e0 (t.now + 1)).rq k
  rw [a6]; exact h.a1 c (b10 c hc hl).1 hl
 ·show Zi s (pTick t.e0 (t.now + 1)) (pTick t.e1 (t.now + 1))
  unfold Zi
  rw [a2, b2, a5, a9, b9]
  exact hz
structure Mr (m0 m1 s : Int) (t z : Tk) (n : Int) : Prop where
 h : MtT m0 m1 s z
 zi : Zi s z.e0 z.e1
 no : z.now = n
 w0 : z.w0 = t.w0
 w1 : z.w1 = t.w1
theorem mr_round (hs : 0 ≤ s) (h : Mr m0 m1 s t z n) (hn : n < 199) : Mr m0 m1 s t (tRound z) (n + 1) ∧ Rl (tRound z) ∧ (s + 64 ≤ n + 1 → (tRound z).e1.sh.g = 3) := by
 obtain ⟨a, b⟩ := mt_tick h.h (by rw [h.no]; exact hn) h.zi
 have st : Mr m0 m1 s t (tTick z) (n + 1) := ⟨a, b, by show z.now + 1 = _; rw [h.no], h.w0, h.w1⟩
 have it : ∀ v, Mr m0 m1 s t v (n + 1) → Mr m0 m1 s t (tIt v) (n + 1) := fun v k => ⟨mt_it k.h, (z_it k.h hs k.zi).1, k.no, k.w0, k.w1⟩
 have two := loop_ind1 (P := fun v => Mr m0 m1 s t v (n + 1)) (Q := Rl) (fun v k => ⟨it v k, rl_it k.h.l⟩) 299 (tTick z) st
 refine ⟨two.1, two.2, fun hn => ?_⟩
 show (tLoop (298 + 1 + 1) (tTick z)).e1.sh.g = 3
 unfold tLoop
 have z2 := (z_it st.h hs st.zi).2 (by rw [st.no]; exact hn)
 split
 ·refine (loop_ind1 (P := fun v => MtT m0 m1 s v ∧ G3T v) (Q := fun v => v.e1.sh.g = 3) (fun v k => ⟨⟨mt_it k.1, .inl (g3_it k.1 k.2)⟩, g3_it k.1 k.2⟩) 298 (tIt (tTick z)) ⟨mt_it st.h, ?_⟩).2
  rcases z2 with k | k
  ·exact .inl k
  ·exact k.1
 ·next so =>
  rcases z2 with k | k
  ·exact k
  ·exact absurd k.2 so
theorem mr_all (hs : 0 ≤ s) (s60 : s ≤ 60) (h : Mr m0 m1 s t t s) : ∀ j : Nat, j ≤ 64 → ∀ n : Int, n = s + j → Mr m0 m1 s t (tRs j t) n
 | 0, _, n, hn => by
  obtain rfl : n = s := by omega
  exact h
 | j + 1, hj, n, hn => by
  have := (mr_round hs (mr_all hs s60 h j (by omega) _ rfl) (by omega)).1
  rw [show n = s + j + 1 by omega]
  exact this
theorem mr_met (hs : 0 ≤ s) (s60 : s ≤ 60) (h : Mr m0 m1 s t t s) : Mr m0 m1 s t (tRs 64 t) (s + 64) ∧ Rl (tRs 64 t) ∧ (tRs 64 t).e1.sh.g = 3 := by
 have a := mr_all hs s60 h 63 (by decide) (s + 63) (by omega)
 have b := mr_round hs a (by omega)
 have e : tRs 64 t = tRound (tRs 63 t) := tRs_succ 63 t
 exact ⟨mr_all hs s60 h 64 (by decide) _ (by omega), by rw [e]; exact b.2.1, by rw [e]; exact b.2.2 (by omega)⟩
theorem tn_start (h : Mr m0 m1 s t z (s + 64)) (g : z.e1.sh.g = 3) (rl : Rl z) (s0 : 0 ≤ s) (s60 : s ≤ 60) : TnT (s + 65) (s + 65) false false (tTick z) ∧ LkT m0 m1 (tTick z) := by
 have no := h.no
 have q0 := h.h.t0.he
 have q1 := h.h.t1.he
 have p0 := h.h.t0.pr
 have p1 := h.h.t1.pr
 have g0 := h.h.h.k3 g
 obtain ⟨a1, a2, a3, a4, a5, a6, a7, a8, a9, a10⟩ := tk_f h.h.t0 h.h.l.ex.sq (by omega) (by omega)
 obtain ⟨b1, b2, b3, b4, b5, b6, b7, b8, b9, b10⟩ := tk_f h.h.t1 h.h.l.ey.sq (by omega) (by omega)
 refine ⟨?_, lkT_tick h.h.l (by omega)⟩
 show Tn (s + 65) (s + 65) (z.now + 1) (pTick z.e0 (z.now + 1)) (pTick z.e1 (z.now + 1)) false false
 refine ⟨by rw [a2]; exact g0, by rw [b2]; exact g, a1, b1, fun c hc hl => ?_, fun c hc hl => ?_, fun c hc hl => ?_, fun c hc hl => ?_, (fun k => by cases k), (fun k => by cases k), fun _ => by rw [a3, a4]; omega, fun _ => by rw [b3, b4]; omega, by rw [b6]; exact rl.1, by rw [a6, a5]; exact rl.2, by omega, by omega⟩
 ·obtain ⟨k1, k2⟩ := a10 c hc hl
  have k2 := k2 g0
  rw [b6]
  rcases h.h.a0 c k1 hl with k | k
  ·omega
  ·exact k
 ·obtain ⟨k1, k2⟩ := b10 c hc hl
  have k2 := k2 g
  rw [a6]
  rcases h.h.a1 c k1 hl with k | k
  ·omega
  ·exact k
 ·have := h.h.t0.fl c (a10 c hc hl).1
  left; omega
 ·have := h.h.t1.fl c (b10 c hc hl).1
  left; omega
structure RB (m0 m1 s : Int) (v : Tk) (j c i : Nat) (t : Tk) : Prop where
 l : LkT m0 m1 t
 no : t.now = s + 64 + j
 w0 : t.w0 = v.w0
 w1 : t.w1 = v.w1
 k : ∃ kx ky q, TnT (s + 65) q kx ky t ∧ q ≤ s + 65 ∧ (65 ≤ j → q = 0) ∧ potT t kx ky + 300 * c ≤ 16395 + 4 * j
 h0 : t.now - t.e0.he ≤ 15 + c ∨ j ≤ 16 + c
 h1 : t.now - t.e1.he ≤ 15 + c ∨ j ≤ 16 + c
 ji : j ≤ 66 + c + i
 d : 0 < i → Dn t ∧ Rd (255 * (i - 1)) t
theorem rd_loop {R : Int} {n : Nat} (l : LkT m0 m1 u) (T : TnT R q kx ky u) (hb : Dn u) (hn : Rd n u) : Dn (tLoop 300 u) ∧ Rd (n + 255) (tLoop 300 u) := by
 have key := loop_ind1 (P := fun z => LkT m0 m1 z ∧ (∃ kx ky, TnT R q kx ky z) ∧ Dn z ∧ Rd n z) (Q := Rd (n + 255)) (fun z k => by
  obtain ⟨l, ⟨kx, ky, T⟩, hb, hn⟩ := k
  obtain ⟨g, k⟩ := go1_it l T
  have l2 := lkT_it l
  have r2 := rd_it n l g hb hn
  refine ⟨⟨l2, ?_, ⟨?_, ?_⟩, ?_⟩, r2⟩
  ·rcases k with ⟨-, a, b, c, -⟩ | ⟨-, a, b, c, -⟩
   ·exact ⟨a, b, c⟩
   ·exact ⟨a, b, c⟩
  ·have z1 := l2.ex.sq.bl
   have z2 := g.b0
   have z3 := hb.1
   have z4 : (tIt z).w0 = z.w0 := rfl
   rw [z4] at z1 ⊢
   omega
  ·have z1 := l2.ey.sq.bl
   have z2 := g.b1
   have z3 := hb.2
   have z4 : (tIt z).w1 = z.w1 := rfl
   rw [z4] at z1 ⊢
   omega
  ·obtain ⟨r3, r4⟩ := r2
   exact ⟨by omega, by omega⟩) 299 u ⟨l, ⟨kx, ky, T⟩, hb, hn⟩
 exact ⟨key.1.2.2.1, key.2⟩
theorem rb_loop {v : Tk} {j c i : Nat} (l : LkT m0 m1 u) (T : TnT (s + 65) q kx ky u) (hq : q ≤ s + 65) (no : u.now = s + 64 + (j + 1)) (w0 : u.w0 = v.w0) (w1 : u.w1 = v.w1) (qj : 64 ≤ j → q = 0)
  (pt : potT u kx ky + 300 * c ≤ 16395 + 4 * (j + 1)) (h0 : u.now - u.e0.he ≤ 16 + c ∨ j ≤ 16 + c) (h1 : u.now - u.e1.he ≤ 16 + c ∨ j ≤ 16 + c) (ji : j ≤ 66 + c + i) (d : 0 < i → Dn u ∧ Rd (255 * (i - 1)) u) :
  ∃ c' i', RB m0 m1 s v (j + 1) c' i' (tLoop 300 u) := by
 obtain ⟨g, k⟩ := go_loop 300 u kx ky l T
 have lz : LkT m0 m1 (tLoop 300 u) := loop_ind (P := LkT m0 m1) (fun _ => lkT_it) 300 u l
 have e0 := g.he0
 have e1 := g.he1
 have en := g.no
 have dd : 0 < i → Dn (tLoop 300 u) ∧ Rd (255 * (i + 1 - 1)) (tLoop 300 u) := fun hi => by
  obtain ⟨d1, d2⟩ := d hi
  have := rd_loop l T d1 d2
  rw [show 255 * (i - 1) + 255 = 255 * (i + 1 - 1) by omega] at this
  exact this
 rcases k with ⟨k3, k4, T2, P2⟩ | ⟨k3, k4, T2, P2, Q⟩
 ·have mk : ∀ i', j + 1 ≤ 66 + (c + 1) + i' → (0 < i' → Dn (tLoop 300 u) ∧ Rd (255 * (i' - 1)) (tLoop 300 u)) → RB m0 m1 s v (j + 1) (c + 1) i' (tLoop 300 u) := fun i' a b =>
   ⟨lz, by rw [en, no]; push_cast; omega, g.w0.trans w0, g.w1.trans w1, ⟨k3, k4, q, T2, hq, fun h => qj (by omega), by push_cast; omega⟩, by rw [en]; push_cast; omega, by rw [en]; push_cast; omega, a, b⟩
  by_cases hi : 0 < i
  ·exact ⟨c + 1, i + 1, mk (i + 1) (by omega) fun _ => dd hi⟩
  ·exact ⟨c + 1, 0, mk 0 (by omega) fun h => absurd h (by omega)⟩
 ·have mk : ∀ i', j + 1 ≤ 66 + c + i' → (0 < i' → Dn (tLoop 300 u) ∧ Rd (255 * (i' - 1)) (tLoop 300 u)) → RB m0 m1 s v (j + 1) c i' (tLoop 300 u) := fun i' a b => by
   have hh : (tLoop 300 u).now - (tLoop 300 u).e0.he ≤ 15 + c ∧ (tLoop 300 u).now - (tLoop 300 u).e1.he ≤ 15 + c ∨ j + 1 ≤ 16 + c := by
    by_cases hj : 15 ≤ j
    ·left
     have := (Q (by rw [en, no]; omega)).1
     omega
    ·right; omega
   refine ⟨lz, by rw [en, no]; push_cast; omega, g.w0.trans w0, g.w1.trans w1, ⟨k3, k4, q, T2, hq, fun h => qj (by omega), by push_cast; omega⟩, ?_, ?_, a, b⟩
   ·rcases hh with h | h
    ·exact .inl h.1
    ·exact .inr h
   ·rcases hh with h | h
    ·exact .inl h.2
    ·exact .inr h
  by_cases hi : 0 < i
  ·exact ⟨c, i + 1, mk (i + 1) (by omega) fun _ => dd hi⟩
  ·by_cases hj : 64 ≤ j
   ·refine ⟨c, 1, mk 1 (by omega) fun _ => ⟨(Q (by rw [en, no]; omega)).2 (by rw [qj hj]; exact Int.le_refl _), ?_, ?_⟩⟩
    ·show min (255 * 0) _ ≤ _
     omega
    ·show min (255 * 0) _ ≤ _
     omega
   ·exact ⟨c, 0, mk 0 (by omega) fun h => absurd h (by omega)⟩
theorem rb_step {v : Tk} {j c i : Nat} (s0 : 0 ≤ s) (s60 : s ≤ 60) (h : RB m0 m1 s v j c i t) (hj : j ≤ 235) : ∃ c' i', RB m0 m1 s v (j + 1) c' i' (tRound t) := by
 obtain ⟨l, no, w0, w1, ⟨kx, ky, q, T, q1, q2, pt⟩, h0, h1, ji, d⟩ := h
 have T : Tn (s + 65) q t.now t.e0 t.e1 kx ky := T
 have l : Lk t.e0 t.e1 m0 m1 t.w0 t.w1 t.r0 t.r1 := l
 have pb := (pot_bd (kx := kx) (ky := ky) l).1
 have pt : pot t.e0 t.e1 t.w0.length t.w1.length kx ky + 300 * c ≤ 16395 + 4 * j := pt
 have y0 := T.tx.he
 have y1 := T.ty.he
 have hx0 : t.now + 1 - t.e0.he < 200 := by omega
 have hx1 : t.now + 1 - t.e1.he < 200 := by omega
 have a := tk_f T.tx l.ex.sq (by omega) hx0
 have b := tk_f T.ty l.ey.sq (by omega) hx1
 have a3 := a.2.2.1
 have b3 := b.2.2.1
 have a8 := a.2.2.2.2.2.2.2.1
 have b8 := b.2.2.2.2.2.2.2.1
 have go : ∀ q', (q' = q ∨ (s + 65 ≤ t.now + 1 - 64 ∧ q ≤ s + 65 ∧ q' = 0 ∧ 0 ≤ t.now)) → q' ≤ s + 65 → (64 ≤ j → q' = 0) → ∃ c' i', RB m0 m1 s v (j + 1) c' i' (tRound t) := fun q' hq hq1 hq2 => by
  obtain ⟨T', P'⟩ := tn_tick l T (by omega) hx0 hx1 hq
  refine rb_loop (u := tTick t) (lkT_tick l (by omega)) T' hq1 (by show t.now + 1 = _; omega) w0 w1 hq2 (by show pot (pTick t.e0 (t.now + 1)) (pTick t.e1 (t.now + 1)) t.w0.length t.w1.length kx ky + _ ≤ _; omega) ?_ ?_ ji fun hi => ⟨⟨?_, ?_⟩, (d hi).2⟩
  ·show t.now + 1 - (pTick t.e0 (t.now + 1)).he ≤ _ ∨ _
   rw [a3]; omega
  ·show t.now + 1 - (pTick t.e1 (t.now + 1)).he ≤ _ ∨ _
   rw [b3]; omega
  ·show (pTick t.e0 (t.now + 1)).sq.b = _
   rw [a8]; exact (d hi).1.1
  ·show (pTick t.e1 (t.now + 1)).sq.b = _
   rw [b8]; exact (d hi).1.2
 by_cases hj : 64 ≤ j
 ·exact go 0 (.inr ⟨by omega, q1, rfl, by omega⟩) (by omega) fun _ => rfl
 ·exact go q (.inl rfl) q1 fun h => absurd h hj
theorem rb_first (a : Mr m0 m1 s t z (s + 64)) (b : Rl z) (c : z.e1.sh.g = 3) (s0 : 0 ≤ s) (s60 : s ≤ 60) : ∃ c i, RB m0 m1 s t (0 + 1) c i (tRound z) := by
 obtain ⟨T, l⟩ := tn_start a c b s0 s60
 have no := a.no
 have l : Lk (tTick z).e0 (tTick z).e1 m0 m1 (tTick z).w0 (tTick z).w1 (tTick z).r0 (tTick z).r1 := l
 have pb : potT (tTick z) false false ≤ 16395 := (pot_bd (kx := false) (ky := false) l).2
 rw [tRound_eq]
 exact rb_loop (j := 0) (c := 0) (i := 0) l T (by omega) (by show z.now + 1 = _; omega) a.w0 a.w1 (fun h => absurd h (by decide)) (by push_cast; omega) (.inr (by omega)) (.inr (by omega)) (by omega) fun h => absurd h (by decide)
theorem rb_all (s0 : 0 ≤ s) (s60 : s ≤ 60) (h : Mr m0 m1 s t t s) : ∀ j : Nat, j ≤ 235 → ∃ c i, RB m0 m1 s t (j + 1) c i (tRs (64 + (j + 1)) t)
 | 0, _ => by
  obtain ⟨a, b, c⟩ := mr_met s0 s60 h
  have e : tRs (64 + (0 + 1)) t = tRound (tRs 64 t) := tRs_succ 64 t
  rw [e]
  exact rb_first a b c s0 s60
 | j + 1, hj => by
  obtain ⟨c, i, k⟩ := rb_all s0 s60 h j (by omega)
  have e : tRs (64 + (j + 1 + 1)) t = tRound (tRs (64 + (j + 1)) t) := tRs_succ (64 + (j + 1)) t
  rw [e]
  exact rb_step s0 s60 k (by omega)
/-- All was read that was written; both are up, and have nothing left. -/
structure En (t : Tk) : Prop where
 r0 : t.r0 = t.w1
 r1 : t.r1 = t.w0
 g0 : t.e0.sh.g = 3
 g1 : t.e1.sh.g = 3
 d0 : t.e0.sq.d = []
 d1 : t.e1.sq.d = []
theorem all_read {w r : List UInt8} {q : C12.Rq} (h : C12.RI w q r) (hl : w.length ≤ r.length) : r = w := by
 have := ri_whole h
 rw [List.take_of_length_le hl] at this
 exact this.symm
theorem rounds_end (s0 : 0 ≤ s) (s60 : s ≤ 60) (h : Mr m0 m1 s t t s) (hw : t.w0.length ≤ 12000 ∧ t.w1.length ≤ 12000) : En (tRs 300 t) := by
 obtain ⟨c, i, k⟩ := rb_all s0 s60 h 235 (by decide)
 have k : RB m0 m1 s t 236 c i (tRs 300 t) := k
 generalize tRs 300 t = z at k
 obtain ⟨l, no, w0, w1, ⟨kx, ky, q, T, q1, q2, pt⟩, h0, h1, ji, d⟩ := k
 have l : Lk z.e0 z.e1 m0 m1 z.w0 z.w1 z.r0 z.r1 := l
 have T : Tn (s + 65) q z.now z.e0 z.e1 kx ky := T
 have pb := (pot_bd (kx := kx) (ky := ky) l).1
 have pt : pot z.e0 z.e1 z.w0.length z.w1.length kx ky + 300 * c ≤ 16395 + 4 * 236 := pt
 obtain ⟨d1, d2, d3⟩ := d (by omega)
 rw [← w0, ← w1] at hw
 have a1 := l.ex.sq.dlen
 have a2 := l.ey.sq.dlen
 have b1 := d1.1
 have b2 := d1.2
 exact ⟨all_read l.rx (by omega), all_read l.ry (by omega), T.gx, T.gy, List.length_eq_zero_iff.1 (by omega), List.length_eq_zero_iff.1 (by omega)⟩
theorem tv_zero {a b : Int} (ha : 0 ≤ a ∧ a < 4294967296) (hb : 0 ≤ b ∧ b < 4294967296) : TV a b (t0 a b) := by
 have ti := ti_zero ha hb
 have e : t0 a b = ⟨{ pNew 2 9 a with sh := C13.nAt (C13.nNew 2 9 a) 1 }, pNew 2 9 b, [], [], [], [], [], [], 0⟩ := rfl
 have d0 : DI ⟨0, [], 0, [], []⟩ 4096 ⟨0, [], []⟩ := ⟨Int.le_refl _, fun m hm => (by cases hm), fun m hm => (by
  rcases hm with g | ⟨c, g⟩
  ·exact g
  ·cases g), by decide, by decide, C11.cov0⟩
 have tt : ∀ g m, EndT { pNew 2 9 m with sh := g } 0 := fun g m => ⟨rfl, ⟨Int.le_refl _, Int.le_refl _⟩, ⟨Int.le_refl _, Int.le_refl _⟩, (by show (0 : Int) ≤ 0 + 64; decide), fun c hc => by cases hc⟩
 rw [e] at ti ⊢
 refine ⟨⟨⟨ti.e0, ti.e1, ti.r0, ti.r1, d0, d0⟩, tt _ a, tt (pNew 2 9 b).sh b, ⟨.inl rfl, .inl rfl, fun g => (by have g : (1 : Int) = 3 := g; omega), fun g => (by have g : (0 : Int) = 3 := g; omega), fun _ => rfl⟩⟩, ⟨fun g hg => (by cases hg), fun g hg => (by cases hg)⟩, ⟨fun g hg => (by cases hg), fun g hg => (by cases hg)⟩, fun g hg => (by cases hg), fun g hg => (by cases hg)⟩
theorem tv_tn {a b : Int} (ha : 0 ≤ a ∧ a < 4294967296) (hb : 0 ≤ b ∧ b < 4294967296) {l : List De} (hl : l.length ≤ 60) (hs : ∀ d ∈ l, d.t.length ≤ 200) : ∀ j : Nat, j ≤ l.length → TV a b (tn a b l j)
 | 0, _ => tv_zero ha hb
 | j + 1, h => by
  have hn := get_of (show j < l.length by omega)
  rw [tn_succ hn]
  exact tv_deed (tv_tn ha hb hl hs j (by omega)) (ti_tn ha hb (by omega) hs j (by omega)) (by omega) _ (hs _ (get_mem hn))
theorem mr_zero {j : Nat} (h : TV m0 m1 t) (ti : TI m0 m1 t j) : Mr m0 m1 t.now t t t.now := by
 have nx0 := h.c.t0.nx
 have nx1 := h.c.t1.nx
 refine ⟨⟨h.c.l, h.c.t0, h.c.t1, h.c.h, fun c hc _ => .inl (h.c.t0.fl c hc), fun c hc _ => .inl (h.c.t1.fl c hc)⟩, ?_, rfl, rfl, rfl⟩
 rcases h.c.h.k1 with g | g | g
 ·exact .inr (.inr (.inr ⟨g, nx0⟩))
 ·exact .inr (.inr (.inl ⟨g, nx1⟩))
 ·exact .inl g
theorem deeds_end {a b : Int} (ha : 0 ≤ a ∧ a < 4294967296) (hb : 0 ≤ b ∧ b < 4294967296) {l : List De} (hl : l.length ≤ 60) (hs : ∀ d ∈ l, d.t.length ≤ 200) : En (tRs 300 (tn a b l l.length)) := by
 have tv := tv_tn ha hb hl hs l.length (Nat.le_refl _)
 have ti := ti_tn ha hb (by omega) hs l.length (Nat.le_refl _)
 have nw := ti.nw
 have wl := ti.wl
 exact rounds_end nw.1 (by omega) (mr_zero tv ti) (by omega)
end
end Go.Proofs.YtalpfhpeaaocmaaGreat
end
section
namespace Go.Proofs.YtalpfhpeaaocmaaGreat
open Sx Go.RowKit
def tkR (t : Tk) : List (Nat × Ob) := [(0, tkB 1 2 t), (1, .row 8 (t.s0.map C13.sgD)), (2, .row 8 (t.s1.map C13.sgD))]
def IR (t : Tk) (i : Int) : St := ⟨[(0, .ptr 0 0), (2, .d (.int .i64 i))], tkR t⟩
def JR (t : Tk) (i : Int) (s : Bool) (k : Int) : St := ⟨[(0, .ptr 0 0), (2, .d (.int .i64 i)), (3, .d (.bool s)), (4, .d (.int .i64 k))], tkR t⟩
def ZR (t : Tk) : St := ⟨[], tkR t⟩
theorem h0y (t t' : Tk) (i : Int) (s : Bool) (e f : Pp) (x : C13.Sg) (k1 : FnOK Tryz.prog 16 [.d (ppD t.e0)] [] (.tup [.d (ppD e), .d (C13.sgD x), .d (.bool true)]) []) (k2 : FnOK Tryz.prog 17 [.d (ppD t.e1), .d (C13.sgD x)] [] (.d (ppD f)) []) (k3 : FnOK Tryz.prog 9 [.ptr 0 0, .d (deD ⟨7, 255, []⟩)] (tkO { t with e0 := e, e1 := f }) (.tup []) (tkO t')) : Runs Tryz.prog 3 (loopN Tryz.prog 11 1) (St.as (JR t i s 0) 60) (.normal) (St.as (JR t' i true 1) 60) := by
 refine round_wp (p := ((0 : Int) ≤ (0 : Int) ∧ (0 : Int) < (↑2 : Int)) ∧ (FnOK Tryz.prog 16 [AV.d (ppD t.e0)] [] (AV.tup [AV.d (ppD e), AV.d (C13.sgD x), vB true]) []) ∧ ((0 : Int) ≤ (0 : Int) ∧ (0 : Int) < (↑2 : Int)) ∧ ((0 : Int) ≤ IntKind.i64.wrap ((1 : Int) - (0 : Int)) ∧ IntKind.i64.wrap ((1 : Int) - (0 : Int)) < (↑2 : Int)) ∧ (FnOK Tryz.prog 17 [AV.d (ppD t.e1), AV.d (C13.sgD x)] [] (AV.d (ppD f)) []) ∧ ((0 : Int) ≤ IntKind.i64.wrap ((1 : Int) - (0 : Int)) ∧ IntKind.i64.wrap ((1 : Int) - (0 : Int)) < (↑2 : Int)) ∧ (FnOK Tryz.prog 9 [AV.ptr 0 0, AV.d (.agg [D.int .u8 7, D.int .u8 255, D.str []])] [Ob.box (ppC e ++ (ppC f ++ [AV.own 1 8, AV.own 2 8, vS t.w0, vS t.w1, vS t.r0, vS t.r1, vI t.now])), Ob.row 8 (List.map C13.sgD t.s0), Ob.row 8 (List.map C13.sgD t.s1)] (AV.tup []) [Ob.box (ppC t'.e0 ++ (ppC t'.e1 ++ [AV.own 1 8, AV.own 2 8, vS t'.w0, vS t'.w1, vS t'.r0, vS t'.r1, vI t'.now])), Ob.row 8 (List.map C13.sgD t'.s0), Ob.row 8 (List.map C13.sgD t'.s1)]) ∧ (rf (AV.ptr 0 0)) ∧ (rf (vI i)) ∧ (rf (vB true)) ∧ (rf (vI 1)) ∧ (rf (Ob.box (ppC t'.e0 ++ (ppC t'.e1 ++ [AV.own 1 8, AV.own 2 8, vS t'.w0, vS t'.w1, vS t'.r0, vS t'.r1, vI t'.now])))) ∧ (rf (Ob.row 8 (List.map C13.sgD t'.s0))) ∧ (rf (Ob.row 8 (List.map C13.sgD t'.s1))) ∧ True) (h := {G := [(16, gA (.tup [.d (ppD e), .d (C13.sgD x), .d (.bool true)])), (17, gA (.d (ppD f)))], H := [(13, [(5, .call [0, 1, 2] (.tup []) (tkO t'))])]}) (subs := []) (ws := []) (ρ := []) (by kernel_rfl) ?_
 repeat' (with_reducible first|exact ⟨⟩|apply And.intro|(first|apply zA|apply zB|apply zC|apply zD|apply zE|apply zF|apply zG)<;>intro)
 all_goals first | exact k1 | exact k2 | exact k3 | rfl | decide | skip
theorem h0n (t t' : Tk) (i : Int) (s : Bool) (e f : Pp) (x : C13.Sg) (k1 : FnOK Tryz.prog 16 [.d (ppD t.e0)] [] (.tup [.d (ppD e), .d (C13.sgD x), .d (.bool false)]) []) (k3 : FnOK Tryz.prog 9 [.ptr 0 0, .d (deD ⟨7, 255, []⟩)] (tkO { t with e0 := e }) (.tup []) (tkO t')) : Runs Tryz.prog 3 (loopN Tryz.prog 11 1) (St.as (JR t i s 0) 60) (.normal) (St.as (JR t' i s 1) 60) := by
 refine round_wp (p := ((0 : Int) ≤ (0 : Int) ∧ (0 : Int) < (↑2 : Int)) ∧ (FnOK Tryz.prog 16 [AV.d (ppD t.e0)] [] (AV.tup [AV.d (ppD e), AV.d (C13.sgD x), vB false]) []) ∧ ((0 : Int) ≤ (0 : Int) ∧ (0 : Int) < (↑2 : Int)) ∧ (FnOK Tryz.prog 9 [AV.ptr 0 0, AV.d (.agg [D.int .u8 7, D.int .u8 255, D.str []])] [Ob.box (ppC e ++ (ppC t.e1 ++ [AV.own 1 8, AV.own 2 8, vS t.w0, vS t.w1, vS t.r0, vS t.r1, vI t.now])), Ob.row 8 (List.map C13.sgD t.s0), Ob.row 8 (List.map C13.sgD t.s1)] (AV.tup []) [Ob.box (ppC t'.e0 ++ (ppC t'.e1 ++ [AV.own 1 8, AV.own 2 8, vS t'.w0, vS t'.w1, vS t'.r0, vS t'.r1, vI t'.now])), Ob.row 8 (List.map C13.sgD t'.s0), Ob.row 8 (List.map C13.sgD t'.s1)]) ∧ (rf (AV.ptr 0 0)) ∧ (rf (vI i)) ∧ (rf (vB s)) ∧ (rf (vI 1)) ∧ (rf (Ob.box (ppC t'.e0 ++ (ppC t'.e1 ++ [AV.own 1 8, AV.own 2 8, vS t'.w0, vS t'.w1, vS t'.r0, vS t'.r1, vI t'.now])))) ∧ (rf (Ob.row 8 (List.map C13.sgD t'.s0))) ∧ (rf (Ob.row 8 (List.map C13.sgD t'.s1))) ∧ True) (h := {G := [(16, gA (.tup [.d (ppD e), .d (C13.sgD x), .d (.bool false)]))], H := [(13, [(5, .call [0, 1, 2] (.tup []) (tkO t'))])]}) (subs := []) (ws := []) (ρ := []) (by kernel_rfl) ?_
 repeat' (with_reducible first|exact ⟨⟩|apply And.intro|(first|apply zA|apply zB|apply zC|apply zD|apply zE|apply zF|apply zG)<;>intro)
 all_goals first | exact k1 | exact k2 | exact k3 | rfl | decide | skip
theorem h1y (t t' : Tk) (i : Int) (s : Bool) (e f : Pp) (x : C13.Sg) (k1 : FnOK Tryz.prog 16 [.d (ppD t.e1)] [] (.tup [.d (ppD e), .d (C13.sgD x), .d (.bool true)]) []) (k2 : FnOK Tryz.prog 17 [.d (ppD t.e0), .d (C13.sgD x)] [] (.d (ppD f)) []) (k3 : FnOK Tryz.prog 9 [.ptr 0 0, .d (deD ⟨8, 255, []⟩)] (tkO { t with e0 := f, e1 := e }) (.tup []) (tkO t')) : Runs Tryz.prog 3 (loopN Tryz.prog 11 1) (St.as (JR t i s 1) 60) (.normal) (St.as (JR t' i true 2) 60) := by
 refine round_wp (p := ((0 : Int) ≤ (1 : Int) ∧ (1 : Int) < (↑2 : Int)) ∧ (FnOK Tryz.prog 16 [AV.d (ppD t.e1)] [] (AV.tup [AV.d (ppD e), AV.d (C13.sgD x), vB true]) []) ∧ ((0 : Int) ≤ (1 : Int) ∧ (1 : Int) < (↑2 : Int)) ∧ ((0 : Int) ≤ IntKind.i64.wrap ((1 : Int) - (1 : Int)) ∧ IntKind.i64.wrap ((1 : Int) - (1 : Int)) < (↑2 : Int)) ∧ (FnOK Tryz.prog 17 [AV.d (ppD t.e0), AV.d (C13.sgD x)] [] (AV.d (ppD f)) []) ∧ ((0 : Int) ≤ IntKind.i64.wrap ((1 : Int) - (1 : Int)) ∧ IntKind.i64.wrap ((1 : Int) - (1 : Int)) < (↑2 : Int)) ∧ (FnOK Tryz.prog 9 [AV.ptr 0 0, AV.d (.agg [D.int .u8 8, D.int .u8 255, D.str []])] [Ob.box (ppC f ++ (ppC e ++ [AV.own 1 8, AV.own 2 8, vS t.w0, vS t.w1, vS t.r0, vS t.r1, vI t.now])), Ob.row 8 (List.map C13.sgD t.s0), Ob.row 8 (List.map C13.sgD t.s1)] (AV.tup []) [Ob.box (ppC t'.e0 ++ (ppC t'.e1 ++ [AV.own 1 8, AV.own 2 8, vS t'.w0, vS t'.w1, vS t'.r0, vS t'.r1, vI t'.now])), Ob.row 8 (List.map C13.sgD t'.s0), Ob.row 8 (List.map C13.sgD t'.s1)]) ∧ (rf (AV.ptr 0 0)) ∧ (rf (vI i)) ∧ (rf (vB true)) ∧ (rf (vI 2)) ∧ (rf (Ob.box (ppC t'.e0 ++ (ppC t'.e1 ++ [AV.own 1 8, AV.own 2 8, vS t'.w0, vS t'.w1, vS t'.r0, vS t'.r1, vI t'.now])))) ∧ (rf (Ob.row 8 (List.map C13.sgD t'.s0))) ∧ (rf (Ob.row 8 (List.map C13.sgD t'.s1))) ∧ True) (h := {G := [(16, gA (.tup [.d (ppD e), .d (C13.sgD x), .d (.bool true)])), (17, gA (.d (ppD f)))], H := [(13, [(5, .call [0, 1, 2] (.tup []) (tkO t'))])]}) (subs := []) (ws := []) (ρ := []) (by kernel_rfl) ?_
 repeat' (with_reducible first|exact ⟨⟩|apply And.intro|(first|apply zA|apply zB|apply zC|apply zD|apply zE|apply zF|apply zG)<;>intro)
 all_goals first | exact k1 | exact k2 | exact k3 | rfl | decide | skip
theorem h1n (t t' : Tk) (i : Int) (s : Bool) (e f : Pp) (x : C13.Sg) (k1 : FnOK Tryz.prog 16 [.d (ppD t.e1)] [] (.tup [.d (ppD e), .d (C13.sgD x), .d (.bool false)]) []) (k3 : FnOK Tryz.prog 9 [.ptr 0 0, .d (deD ⟨8, 255, []⟩)] (tkO { t with e1 := e }) (.tup []) (tkO t')) : Runs Tryz.prog 3 (loopN Tryz.prog 11 1) (St.as (JR t i s 1) 60) (.normal) (St.as (JR t' i s 2) 60) := by
 refine round_wp (p := ((0 : Int) ≤ (1 : Int) ∧ (1 : Int) < (↑2 : Int)) ∧ (FnOK Tryz.prog 16 [AV.d (ppD t.e1)] [] (AV.tup [AV.d (ppD e), AV.d (C13.sgD x), vB false]) []) ∧ ((0 : Int) ≤ (1 : Int) ∧ (1 : Int) < (↑2 : Int)) ∧ (FnOK Tryz.prog 9 [AV.ptr 0 0, AV.d (.agg [D.int .u8 8, D.int .u8 255, D.str []])] [Ob.box (ppC t.e0 ++ (ppC e ++ [AV.own 1 8, AV.own 2 8, vS t.w0, vS t.w1, vS t.r0, vS t.r1, vI t.now])), Ob.row 8 (List.map C13.sgD t.s0), Ob.row 8 (List.map C13.sgD t.s1)] (AV.tup []) [Ob.box (ppC t'.e0 ++ (ppC t'.e1 ++ [AV.own 1 8, AV.own 2 8, vS t'.w0, vS t'.w1, vS t'.r0, vS t'.r1, vI t'.now])), Ob.row 8 (List.map C13.sgD t'.s0), Ob.row 8 (List.map C13.sgD t'.s1)]) ∧ (rf (AV.ptr 0 0)) ∧ (rf (vI i)) ∧ (rf (vB s)) ∧ (rf (vI 2)) ∧ (rf (Ob.box (ppC t'.e0 ++ (ppC t'.e1 ++ [AV.own 1 8, AV.own 2 8, vS t'.w0, vS t'.w1, vS t'.r0, vS t'.r1, vI t'.now])))) ∧ (rf (Ob.row 8 (List.map C13.sgD t'.s0))) ∧ (rf (Ob.row 8 (List.map C13.sgD t'.s1))) ∧ True) (h := {G := [(16, gA (.tup [.d (ppD e), .d (C13.sgD x), .d (.bool false)]))], H := [(13, [(5, .call [0, 1, 2] (.tup []) (tkO t'))])]}) (subs := []) (ws := []) (ρ := []) (by kernel_rfl) ?_
 repeat' (with_reducible first|exact ⟨⟩|apply And.intro|(first|apply zA|apply zB|apply zC|apply zD|apply zE|apply zF|apply zG)<;>intro)
 all_goals first | exact k1 | exact k2 | exact k3 | rfl | decide | skip
theorem h2 (t : Tk) (i : Int) (s : Bool) : Runs Tryz.prog 3 (loopN Tryz.prog 11 1) (St.as (JR t i s 2) 60) (.exit 2) (St.as (JR t i s 2) 60) := by
 refine round_wp (p := (rf (AV.ptr 0 0)) ∧ (rf (vI i)) ∧ (rf (vB s)) ∧ (rf (vI 2)) ∧ (rf (Ob.box (ppC t.e0 ++ (ppC t.e1 ++ [AV.own 1 8, AV.own 2 8, vS t.w0, vS t.w1, vS t.r0, vS t.r1, vI t.now])))) ∧ (rf (Ob.row 8 (List.map C13.sgD t.s0))) ∧ (rf (Ob.row 8 (List.map C13.sgD t.s1))) ∧ True) (h := {}) (subs := []) (ws := []) (ρ := []) (by kernel_rfl) ?_
 repeat' (with_reducible first|exact ⟨⟩|apply And.intro|(first|apply zA|apply zB|apply zC|apply zD|apply zE|apply zF|apply zG)<;>intro)
 all_goals first | exact k1 | exact k2 | exact k3 | rfl | decide | skip
theorem oy (t t' : Tk) (i : Nat) (hi : i < 300) (hL : Loops Tryz.prog 3 (loopN Tryz.prog 11 1) ((JR t i false 0).as 60) (.exit 2) ((JR t' i true 2).as 60)) : Runs Tryz.prog 3 (loopN Tryz.prog 11 0) (St.as (IR t i) 60) (.normal) (St.as (IR t' (i+1)) 60) := by
 refine round_wp (p := condP (decide ((↑i : Int) < (300 : Int))) ((rf (AV.ptr 0 0)) ∧ (rf (vI (↑i : Int))) ∧ (rf (vB false)) ∧ (rf (vI 0)) ∧ (rf (Ob.box (ppC t.e0 ++ (ppC t.e1 ++ [AV.own 1 8, AV.own 2 8, vS t.w0, vS t.w1, vS t.r0, vS t.r1, vI t.now])))) ∧ (rf (Ob.row 8 (List.map C13.sgD t.s0))) ∧ (rf (Ob.row 8 (List.map C13.sgD t.s1))) ∧ (LoopsS Tryz.prog 3 (loopN Tryz.prog 11 1) (JR t (↑i : Int) false (0 : Int)) (Exit.exit 2) (JR t' (↑i : Int) true (2 : Int)) 60) ∧ (rf (AV.ptr 0 0)) ∧ (vI (IntKind.i64.wrap ((↑i : Int) + (1 : Int))) = vI ((↑i : Int) + (1 : Int))) ∧ (rf (Ob.box (ppC t'.e0 ++ (ppC t'.e1 ++ [AV.own 1 8, AV.own 2 8, vS t'.w0, vS t'.w1, vS t'.r0, vS t'.r1, vI t'.now])))) ∧ (rf (Ob.row 8 (List.map C13.sgD t'.s0))) ∧ (rf (Ob.row 8 (List.map C13.sgD t'.s1))) ∧ True) (False)) (h := {}) (subs := [⟨[], [], JR t i false 0, .exit 2, JR t' i true 2⟩]) (ws := []) (ρ := []) (by kernel_rfl) ?_
 have hi2 := inc_i64 (j := i) (by omega)
 rw [hi2]
 refine condP_t (by rw [decide_eq_true_eq]; omega) ?_
 repeat' (with_reducible first|exact ⟨⟩|apply And.intro|(first|apply zA|apply zB|apply zC|apply zD|apply zE|apply zF|apply zG)<;>intro)
 all_goals first | exact hL | rfl | omega | skip
theorem on (t t' : Tk) (i : Nat) (hi : i < 300) (hL : Loops Tryz.prog 3 (loopN Tryz.prog 11 1) ((JR t i false 0).as 60) (.exit 2) ((JR t' i false 2).as 60)) : Runs Tryz.prog 3 (loopN Tryz.prog 11 0) (St.as (IR t i) 60) (.ret) (St.as (ZR t') 60) := by
 refine round_wp (p := condP (decide ((↑i : Int) < (300 : Int))) ((rf (AV.ptr 0 0)) ∧ (rf (vI (↑i : Int))) ∧ (rf (vB false)) ∧ (rf (vI 0)) ∧ (rf (Ob.box (ppC t.e0 ++ (ppC t.e1 ++ [AV.own 1 8, AV.own 2 8, vS t.w0, vS t.w1, vS t.r0, vS t.r1, vI t.now])))) ∧ (rf (Ob.row 8 (List.map C13.sgD t.s0))) ∧ (rf (Ob.row 8 (List.map C13.sgD t.s1))) ∧ (LoopsS Tryz.prog 3 (loopN Tryz.prog 11 1) (JR t (↑i : Int) false (0 : Int)) (Exit.exit 2) (JR t' (↑i : Int) false (2 : Int)) 60) ∧ (rf (Ob.box (ppC t'.e0 ++ (ppC t'.e1 ++ [AV.own 1 8, AV.own 2 8, vS t'.w0, vS t'.w1, vS t'.r0, vS t'.r1, vI t'.now])))) ∧ (rf (Ob.row 8 (List.map C13.sgD t'.s0))) ∧ (rf (Ob.row 8 (List.map C13.sgD t'.s1))) ∧ True) (False)) (h := {}) (subs := [⟨[], [], JR t i false 0, .exit 2, JR t' i false 2⟩]) (ws := []) (ρ := []) (by kernel_rfl) ?_
 refine condP_t (by rw [decide_eq_true_eq]; omega) ?_
 repeat' (with_reducible first|exact ⟨⟩|apply And.intro|(first|apply zA|apply zB|apply zC|apply zD|apply zE|apply zF|apply zG)<;>intro)
 all_goals first | exact hL | rfl | omega | skip
theorem oq (t : Tk) : Runs Tryz.prog 3 (loopN Tryz.prog 11 0) (St.as (IR t 300) 60) (.exit 0) (St.as (ZR t) 60) := by
 refine round_wp (p := (rf (Ob.box (ppC t.e0 ++ (ppC t.e1 ++ [AV.own 1 8, AV.own 2 8, vS t.w0, vS t.w1, vS t.r0, vS t.r1, vI t.now])))) ∧ (rf (Ob.row 8 (List.map C13.sgD t.s0))) ∧ (rf (Ob.row 8 (List.map C13.sgD t.s1))) ∧ True) (h := {}) (subs := []) (ws := []) (ρ := []) (by kernel_rfl) ?_
 repeat' (with_reducible first|exact ⟨⟩|apply And.intro|(first|apply zA|apply zB|apply zC|apply zD|apply zE|apply zF|apply zG)<;>intro)
 all_goals first | exact k1 | exact k2 | exact k3 | rfl | decide | skip
theorem rnd11 (t t1 z : Tk) (k1 : FnOK Tryz.prog 9 [.ptr 0 0, .d (deD ⟨2, 0, []⟩)] (tkO t) (.tup []) (tkO t1)) (hL : Loops Tryz.prog 3 (loopN Tryz.prog 11 0) ((IR t1 0).as 60) (.exit 0) ((ZR z).as 60)) : FnOK Tryz.prog 11 ([.ptr 0 0]) (tkO t) (.tup []) (tkO z) := by
 refine fnOK_wp (p := (FnOK Tryz.prog 9 [AV.ptr 0 0, AV.d (.agg [D.int .u8 2, D.int .u8 0, D.str []])] [Ob.box (ppC t.e0 ++ (ppC t.e1 ++ [AV.own 1 8, AV.own 2 8, vS t.w0, vS t.w1, vS t.r0, vS t.r1, vI t.now])), Ob.row 8 (List.map C13.sgD t.s0), Ob.row 8 (List.map C13.sgD t.s1)] (AV.tup []) [Ob.box (ppC t1.e0 ++ (ppC t1.e1 ++ [AV.own 1 8, AV.own 2 8, vS t1.w0, vS t1.w1, vS t1.r0, vS t1.r1, vI t1.now])), Ob.row 8 (List.map C13.sgD t1.s0), Ob.row 8 (List.map C13.sgD t1.s1)]) ∧ (rf (AV.ptr 0 0)) ∧ (rf (vI 0)) ∧ (rf (Ob.box (ppC t1.e0 ++ (ppC t1.e1 ++ [AV.own 1 8, AV.own 2 8, vS t1.w0, vS t1.w1, vS t1.r0, vS t1.r1, vI t1.now])))) ∧ (rf (Ob.row 8 (List.map C13.sgD t1.s0))) ∧ (rf (Ob.row 8 (List.map C13.sgD t1.s1))) ∧ (LoopsS Tryz.prog 3 (loopN Tryz.prog 11 0) (IR t1 (0 : Int)) (Exit.exit 0) (ZR z) 60) ∧ (rf (AV.tup [])) ∧ (rf (Ob.box (ppC z.e0 ++ (ppC z.e1 ++ [AV.own 1 8, AV.own 2 8, vS z.w0, vS z.w1, vS z.r0, vS z.r1, vI z.now])))) ∧ (rf (Ob.row 8 (List.map C13.sgD z.s0))) ∧ (rf (Ob.row 8 (List.map C13.sgD z.s1))) ∧ True) (h := {H := [(0, [(2, .call [0, 1, 2] (.tup []) (tkO t1))])]}) (subs := [⟨[], [], IR t1 0, .exit 0, ZR z⟩]) (ws := []) (ρ := []) (by kernel_rfl) ?_
 repeat' (with_reducible first|exact ⟨⟩|apply And.intro|(first|apply zA|apply zB|apply zC|apply zD|apply zE|apply zF|apply zG)<;>intro)
 all_goals first | exact k1 | exact hL | rfl | skip
theorem rnd11r (t t1 z : Tk) (k1 : FnOK Tryz.prog 9 [.ptr 0 0, .d (deD ⟨2, 0, []⟩)] (tkO t) (.tup []) (tkO t1)) (hL : Loops Tryz.prog 3 (loopN Tryz.prog 11 0) ((IR t1 0).as 60) .ret ((ZR z).as 60)) : FnOK Tryz.prog 11 ([.ptr 0 0]) (tkO t) (.tup []) (tkO z) := by
 refine fnOK_wp (p := (FnOK Tryz.prog 9 [AV.ptr 0 0, AV.d (.agg [D.int .u8 2, D.int .u8 0, D.str []])] [Ob.box (ppC t.e0 ++ (ppC t.e1 ++ [AV.own 1 8, AV.own 2 8, vS t.w0, vS t.w1, vS t.r0, vS t.r1, vI t.now])), Ob.row 8 (List.map C13.sgD t.s0), Ob.row 8 (List.map C13.sgD t.s1)] (AV.tup []) [Ob.box (ppC t1.e0 ++ (ppC t1.e1 ++ [AV.own 1 8, AV.own 2 8, vS t1.w0, vS t1.w1, vS t1.r0, vS t1.r1, vI t1.now])), Ob.row 8 (List.map C13.sgD t1.s0), Ob.row 8 (List.map C13.sgD t1.s1)]) ∧ (rf (AV.ptr 0 0)) ∧ (rf (vI 0)) ∧ (rf (Ob.box (ppC t1.e0 ++ (ppC t1.e1 ++ [AV.own 1 8, AV.own 2 8, vS t1.w0, vS t1.w1, vS t1.r0, vS t1.r1, vI t1.now])))) ∧ (rf (Ob.row 8 (List.map C13.sgD t1.s0))) ∧ (rf (Ob.row 8 (List.map C13.sgD t1.s1))) ∧ (LoopsS Tryz.prog 3 (loopN Tryz.prog 11 0) (IR t1 (0 : Int)) Exit.ret (ZR z) 60) ∧ (rf (AV.tup [])) ∧ (rf (Ob.box (ppC z.e0 ++ (ppC z.e1 ++ [AV.own 1 8, AV.own 2 8, vS z.w0, vS z.w1, vS z.r0, vS z.r1, vI z.now])))) ∧ (rf (Ob.row 8 (List.map C13.sgD z.s0))) ∧ (rf (Ob.row 8 (List.map C13.sgD z.s1))) ∧ True) (h := {H := [(0, [(2, .call [0, 1, 2] (.tup []) (tkO t1))])]}) (subs := [⟨[], [], IR t1 0, .ret, ZR z⟩]) (ws := []) (ρ := []) (by kernel_rfl) ?_
 repeat' (with_reducible first|exact ⟨⟩|apply And.intro|(first|apply zA|apply zB|apply zC|apply zD|apply zE|apply zF|apply zG)<;>intro)
 all_goals first | exact k1 | exact hL | rfl | skip
end Go.Proofs.YtalpfhpeaaocmaaGreat
end
section
namespace Go.Proofs.YtalpfhpeaaocmaaGreat
open Sx Go.RowKit
def WL (t : Tk) : Prop := t.w0.length < 50000 ∧ t.w1.length < 50000
section
variable {m0 m1 : Int} {t : Tk}
theorem walk0 (l : LkT m0 m1 t) (hw : WL t) (i : Int) (s : Bool) : Runs Tryz.prog 3 (loopN Tryz.prog 11 1) ((JR t i s 0).as 60) .normal ((JR (tH0 t) i (s || (pOut t.e0).2.2) 1).as 60) := by
 have p0 := endI_r l.ex l.rx
 have p1 := endI_r l.ey l.ry
 obtain ⟨l1, l2⟩ := lk_out l
 have p2 := endI_r l1.ex l1.rx
 have ko := out16 t.e0 p0
 have wl0 := l.ex.wl
 have wl1 := l.ey.wl
 have rl := ri_len l.rx
 have ul : (pRead (pOut t.e0).1 255).2.length ≤ 255 := by rw [(hx_f l).2.2.2.2, List.length_take]; omega
 have kr := read19 (pOut t.e0).1 p2.rq p2.rb (by have := p2.rp; omega) 255
 cases hb : (pOut t.e0).2.2
 ·rw [hb] at ko
  have eh : hy t.e0 t.e1 = t.e1 := by unfold hy; rw [hb]; rfl
  rw [Bool.or_false]
  exact h0n t (tH0 t) i s (pOut t.e0).1 t.e0 (pOut t.e0).2.1 ko (deed7 _ _ ⟨7, 255, []⟩ (by show t.w0.length + 0 < _; omega) (by show t.w1.length + 0 < _; omega) rfl _ _ kr (by show t.r0.length + _ < _; omega) rfl (by unfold tH0; rw [eh]; rfl))
 ·rw [hb] at ko
  have eh : hy t.e0 t.e1 = pOn t.e1 (pOut t.e0).2.1 := by unfold hy; rw [hb]; rfl
  rw [Bool.or_true]
  exact h0y t (tH0 t) i s (pOut t.e0).1 (pOn t.e1 (pOut t.e0).2.1) (pOut t.e0).2.1 ko (on17 t.e1 p1 _ (segI_r (l2 hb).1 hw.1)) (deed7 _ _ ⟨7, 255, []⟩ (by show t.w0.length + 0 < _; omega) (by show t.w1.length + 0 < _; omega) rfl _ _ kr (by show t.r0.length + _ < _; omega) rfl (by unfold tH0; rw [eh]; rfl))
theorem walk1 (l : LkT m0 m1 t) (hw : WL t) (i : Int) (s : Bool) : Runs Tryz.prog 3 (loopN Tryz.prog 11 1) ((JR t i s 1).as 60) .normal ((JR (tH1 t) i (s || (pOut t.e1).2.2) 2).as 60) := by
 have p0 := endI_r l.ex l.rx
 have p1 := endI_r l.ey l.ry
 obtain ⟨l1, l2⟩ := lk_out l.sw
 have p2 := endI_r l1.ex l1.rx
 have ko := out16 t.e1 p1
 have wl0 := l.ex.wl
 have wl1 := l.ey.wl
 have rl := ri_len l.ry
 have ul : (pRead (pOut t.e1).1 255).2.length ≤ 255 := by rw [(hx_f l.sw).2.2.2.2, List.length_take]; omega
 have kr := read19 (pOut t.e1).1 p2.rq p2.rb (by have := p2.rp; omega) 255
 cases hb : (pOut t.e1).2.2
 ·rw [hb] at ko
  have eh : hy t.e1 t.e0 = t.e0 := by unfold hy; rw [hb]; rfl
  rw [Bool.or_false]
  exact h1n t (tH1 t) i s (pOut t.e1).1 t.e1 (pOut t.e1).2.1 ko (deed8 _ _ ⟨8, 255, []⟩ (by show t.w0.length + 0 < _; omega) (by show t.w1.length + 0 < _; omega) rfl _ _ kr (by show t.r1.length + _ < _; omega) rfl (by unfold tH1; rw [eh]; rfl))
 ·rw [hb] at ko
  have eh : hy t.e1 t.e0 = pOn t.e0 (pOut t.e1).2.1 := by unfold hy; rw [hb]; rfl
  rw [Bool.or_true]
  exact h1y t (tH1 t) i s (pOut t.e1).1 (pOn t.e0 (pOut t.e1).2.1) (pOut t.e1).2.1 ko (on17 t.e0 p0 _ (segI_r (l2 hb).1 hw.2)) (deed8 _ _ ⟨8, 255, []⟩ (by show t.w0.length + 0 < _; omega) (by show t.w1.length + 0 < _; omega) rfl _ _ kr (by show t.r1.length + _ < _; omega) rfl (by unfold tH1; rw [eh]; rfl))
theorem walkI (l : LkT m0 m1 t) (hw : WL t) (i : Int) : Loops Tryz.prog 3 (loopN Tryz.prog 11 1) ((JR t i false 0).as 60) (.exit 2) ((JR (tIt t) i (tSome t) 2).as 60) := by
 have a := walk0 l hw i false
 have b := walk1 (lkT_h0 l) hw i (false || (pOut t.e0).2.2)
 have e : ((false || (pOut t.e0).2.2) || (pOut (tH0 t).e1).2.2) = tSome t := by rw [Bool.false_or]; rfl
 rw [e] at b
 exact .next a (.next b (.out (h2 (tIt t) i (tSome t)) (by simp)))
theorem walkL : ∀ (m i : Nat) (t : Tk), LkT m0 m1 t → WL t → i + m = 300 → Loops Tryz.prog 3 (loopN Tryz.prog 11 0) ((IR t i).as 60) (.exit 0) ((ZR (tLoop m t)).as 60) ∨ Loops Tryz.prog 3 (loopN Tryz.prog 11 0) ((IR t i).as 60) .ret ((ZR (tLoop m t)).as 60)
 | 0, i, t, l, hw, hi => by
  obtain rfl : i = 300 := by omega
  exact .inl (.out (oq t) (by simp))
 | m + 1, i, t, l, hw, hi => by
  have w := walkI l hw (i : Int)
  unfold tLoop
  cases hs : tSome t
  ·rw [hs] at w
   rw [if_neg (by simp)]
   exact .inr (.out (on t (tIt t) i (by omega) w) (by simp))
  ·rw [hs] at w
   rw [if_pos rfl]
   have e : ((i : Int) + 1) = ((i + 1 : Nat) : Int) := by push_cast; rfl
   have y := oy t (tIt t) i (by omega) w
   rw [e] at y
   exact (walkL m (i + 1) (tIt t) (lkT_it l) hw (by omega)).imp (.next y) (.next y)
theorem round11 (l : LkT m0 m1 t) (hw : WL t) (hn : 0 ≤ t.now ∧ t.now < 900) : FnOK Tryz.prog 11 [.ptr 0 0] (tkO t) (.tup []) (tkO (tRound t)) := by
 have p0 := endI_r l.ex l.rx
 have p1 := endI_r l.ey l.ry
 have wl0 := l.ex.wl
 have wl1 := l.ey.wl
 have wr : IntKind.i64.wrap (t.now + 1) = t.now + 1 := by rw [IntKind.wrap_i64]; omega
 have kd := deed2 t (tTick t) ⟨2, 0, []⟩ (by show t.w0.length + 0 < _; omega) (by show t.w1.length + 0 < _; omega) rfl _ _ (t.now + 1) (tick24 t.e0 p0.sq _) (tick24 t.e1 p1.sq _) wr rfl rfl
 rw [tRound_eq]
 rcases walkL 300 0 (tTick t) (lkT_tick l (by omega)) hw rfl with w | w
 ·exact rnd11 t (tTick t) _ kd w
 ·exact rnd11r t (tTick t) _ kd w
theorem lk_rs (l : LkT m0 m1 t) (hw : WL t) (h0 : 0 ≤ t.now) (h1 : t.now ≤ 60) : ∀ j : Nat, j ≤ 300 → LkT m0 m1 (tRs j t) ∧ WL (tRs j t) ∧ (tRs j t).now = t.now + j
 | 0, _ => ⟨l, hw, by show t.now = t.now + (0 : Int); omega⟩
 | j + 1, hj => by
  obtain ⟨a, w, b⟩ := lk_rs l hw h0 h1 j (by omega)
  rw [tRs_succ]
  generalize tRs j t = z at a b w
  have st : LkT m0 m1 (tTick z) ∧ WL (tTick z) ∧ (tTick z).now = t.now + ((j + 1 : Nat) : Int) := ⟨lkT_tick a (by omega), w, by show z.now + 1 = _; omega⟩
  exact loop_ind (P := fun v => LkT m0 m1 v ∧ WL v ∧ v.now = t.now + ((j + 1 : Nat) : Int)) (fun v k => ⟨lkT_it k.1, k.2⟩) 300 (tTick z) st
end
theorem rEo (l : List De) (hl : l.length ≤ 100) (t t' : Tk) (j : Nat) (d : De) (hn : l[j]? = some d) (k1 : FnOK Tryz.prog 9 [.ptr 0 0, .d (deD d)] (tkO t) (.tup []) (tkO t')) : Runs Tryz.prog 0 (loopN Tryz.prog 4 0) (St.as (IP l t j) 97) (.normal) (St.as (IP l t' (j+1)) 97) := by
 refine round_wp (p := condP (decide ((↑j : Int) < (↑(List.map deD l).length : Int))) (((0 : Int) ≤ (↑j : Int)) ∧ ((List.map deD l)[(↑j : Int).toNat]? = some (D.agg [D.int .u8 d.k, D.int .u8 d.n, D.str d.t])) ∧ (FnOK Tryz.prog 9 [AV.ptr 0 0, AV.d (.agg [D.int .u8 d.k, D.int .u8 d.n, D.str d.t])] [Ob.box (ppC t.e0 ++ (ppC t.e1 ++ [AV.own 1 8, AV.own 2 8, vS t.w0, vS t.w1, vS t.r0, vS t.r1, vI t.now])), Ob.row 8 (List.map C13.sgD t.s0), Ob.row 8 (List.map C13.sgD t.s1)] (AV.tup []) [Ob.box (ppC t'.e0 ++ (ppC t'.e1 ++ [AV.own 1 8, AV.own 2 8, vS t'.w0, vS t'.w1, vS t'.r0, vS t'.r1, vI t'.now])), Ob.row 8 (List.map C13.sgD t'.s0), Ob.row 8 (List.map C13.sgD t'.s1)]) ∧ (rf (vL (List.map deD l))) ∧ (rf (AV.ptr 0 0)) ∧ (vI (IntKind.i64.wrap ((↑j : Int) + (1 : Int))) = vI (↑(j + 1) : Int)) ∧ (rf (Ob.box (ppC t'.e0 ++ (ppC t'.e1 ++ [AV.own 1 8, AV.own 2 8, vS t'.w0, vS t'.w1, vS t'.r0, vS t'.r1, vI t'.now])))) ∧ (rf (Ob.row 8 (List.map C13.sgD t'.s0))) ∧ (rf (Ob.row 8 (List.map C13.sgD t'.s1))) ∧ True) (False)) (h := {els := [(27, .el (deD d))], H := [(9, [(5, .call [0, 1, 2] (.tup []) (tkO t'))])]}) (subs := []) (ws := []) (ρ := []) (by kernel_rfl) ?_
 have hj := get_lt hn
 have hi := inc_i64 (j := j) (by omega)
 rw [hi]
 simp only [List.length_map]
 refine condP_t (by rw [decide_eq_true_eq]; omega) ?_
 repeat' (with_reducible first|exact ⟨⟩|apply And.intro|(first|apply zA|apply zB|apply zC|apply zD|apply zE|apply zF|apply zG)<;>intro)
 all_goals first | exact k1 | exact el_map hn rfl | rfl | omega | skip
theorem rEp (l : List De) (hl : l.length ≤ 100) (t t' : Tk) (j : Nat) (d : De) (hn : l[j]? = some d) (k1 : FnOK Tryz.prog 9 [.ptr 0 0, .d (deD d)] (tkO t) (.tup []) (tkP t')) : Runs Tryz.prog 0 (loopN Tryz.prog 4 0) (St.as (IP l t j) 97) (.normal) (St.as (IP l t' (j+1)) 97) := by
 refine round_wp (p := condP (decide ((↑j : Int) < (↑(List.map deD l).length : Int))) (((0 : Int) ≤ (↑j : Int)) ∧ ((List.map deD l)[(↑j : Int).toNat]? = some (D.agg [D.int .u8 d.k, D.int .u8 d.n, D.str d.t])) ∧ (FnOK Tryz.prog 9 [AV.ptr 0 0, AV.d (.agg [D.int .u8 d.k, D.int .u8 d.n, D.str d.t])] [Ob.box (ppC t.e0 ++ (ppC t.e1 ++ [AV.own 1 8, AV.own 2 8, vS t.w0, vS t.w1, vS t.r0, vS t.r1, vI t.now])), Ob.row 8 (List.map C13.sgD t.s0), Ob.row 8 (List.map C13.sgD t.s1)] (AV.tup []) [Ob.box (ppC t'.e0 ++ (ppC t'.e1 ++ [AV.own 3 8, AV.own 2 8, vS t'.w0, vS t'.w1, vS t'.r0, vS t'.r1, vI t'.now])), Ob.gone, Ob.row 8 (List.map C13.sgD t'.s1), Ob.row 8 (List.map C13.sgD t'.s0)]) ∧ (rf (vL (List.map deD l))) ∧ (rf (AV.ptr 0 0)) ∧ (vI (IntKind.i64.wrap ((↑j : Int) + (1 : Int))) = vI (↑(j + 1) : Int)) ∧ (rf (Ob.box (ppC t'.e0 ++ (ppC t'.e1 ++ [AV.own 1248 8, AV.own 2 8, vS t'.w0, vS t'.w1, vS t'.r0, vS t'.r1, vI t'.now])))) ∧ (rf (Ob.row 8 (List.map C13.sgD t'.s0))) ∧ (rf (Ob.row 8 (List.map C13.sgD t'.s1))) ∧ True) (False)) (h := {els := [(27, .el (deD d))], H := [(9, [(5, .call [0, 1, 2] (.tup []) (tkP t'))])]}) (subs := []) (ws := []) (ρ := []) (by kernel_rfl) ?_
 have hj := get_lt hn
 have hi := inc_i64 (j := j) (by omega)
 rw [hi]
 simp only [List.length_map]
 refine condP_t (by rw [decide_eq_true_eq]; omega) ?_
 repeat' (with_reducible first|exact ⟨⟩|apply And.intro|(first|apply zA|apply zB|apply zC|apply zD|apply zE|apply zF|apply zG)<;>intro)
 all_goals first | exact k1 | exact el_map hn rfl | rfl | omega | skip
theorem rEq (l : List De) (hl : l.length ≤ 100) (t t' : Tk) (j : Nat) (d : De) (hn : l[j]? = some d) (k1 : FnOK Tryz.prog 9 [.ptr 0 0, .d (deD d)] (tkO t) (.tup []) (tkQ t')) : Runs Tryz.prog 0 (loopN Tryz.prog 4 0) (St.as (IP l t j) 97) (.normal) (St.as (IP l t' (j+1)) 97) := by
 refine round_wp (p := condP (decide ((↑j : Int) < (↑(List.map deD l).length : Int))) (((0 : Int) ≤ (↑j : Int)) ∧ ((List.map deD l)[(↑j : Int).toNat]? = some (D.agg [D.int .u8 d.k, D.int .u8 d.n, D.str d.t])) ∧ (FnOK Tryz.prog 9 [AV.ptr 0 0, AV.d (.agg [D.int .u8 d.k, D.int .u8 d.n, D.str d.t])] [Ob.box (ppC t.e0 ++ (ppC t.e1 ++ [AV.own 1 8, AV.own 2 8, vS t.w0, vS t.w1, vS t.r0, vS t.r1, vI t.now])), Ob.row 8 (List.map C13.sgD t.s0), Ob.row 8 (List.map C13.sgD t.s1)] (AV.tup []) [Ob.box (ppC t'.e0 ++ (ppC t'.e1 ++ [AV.own 1 8, AV.own 3 8, vS t'.w0, vS t'.w1, vS t'.r0, vS t'.r1, vI t'.now])), Ob.row 8 (List.map C13.sgD t'.s0), Ob.gone, Ob.row 8 (List.map C13.sgD t'.s1)]) ∧ (rf (vL (List.map deD l))) ∧ (rf (AV.ptr 0 0)) ∧ (vI (IntKind.i64.wrap ((↑j : Int) + (1 : Int))) = vI (↑(j + 1) : Int)) ∧ (rf (Ob.box (ppC t'.e0 ++ (ppC t'.e1 ++ [AV.own 1 8, AV.own 1248 8, vS t'.w0, vS t'.w1, vS t'.r0, vS t'.r1, vI t'.now])))) ∧ (rf (Ob.row 8 (List.map C13.sgD t'.s0))) ∧ (rf (Ob.row 8 (List.map C13.sgD t'.s1))) ∧ True) (False)) (h := {els := [(27, .el (deD d))], H := [(9, [(5, .call [0, 1, 2] (.tup []) (tkQ t'))])]}) (subs := []) (ws := []) (ρ := []) (by kernel_rfl) ?_
 have hj := get_lt hn
 have hi := inc_i64 (j := j) (by omega)
 rw [hi]
 simp only [List.length_map]
 refine condP_t (by rw [decide_eq_true_eq]; omega) ?_
 repeat' (with_reducible first|exact ⟨⟩|apply And.intro|(first|apply zA|apply zB|apply zC|apply zD|apply zE|apply zF|apply zG)<;>intro)
 all_goals first | exact k1 | exact el_map hn rfl | rfl | omega | skip
theorem qE (l : List De) (t : Tk) : Runs Tryz.prog 0 (loopN Tryz.prog 4 0) (St.as (IP l t l.length) 97) (.exit 0) (St.as (IP l t l.length) 97) := by
 refine round_wp (p := condP (decide ((↑l.length : Int) < (↑(List.map deD l).length : Int))) (False) ((rf (vL (List.map deD l))) ∧ (rf (AV.ptr 0 0)) ∧ (rf (vI (↑l.length : Int))) ∧ (rf (Ob.box (ppC t.e0 ++ (ppC t.e1 ++ [AV.own 1 8, AV.own 2 8, vS t.w0, vS t.w1, vS t.r0, vS t.r1, vI t.now])))) ∧ (rf (Ob.row 8 (List.map C13.sgD t.s0))) ∧ (rf (Ob.row 8 (List.map C13.sgD t.s1))) ∧ True)) (h := {}) (subs := []) (ws := []) (ρ := []) (by kernel_rfl) ?_
 repeat' (with_reducible first|exact ⟨⟩|apply And.intro|(first|apply zA|apply zB|apply zC|apply zD|apply zE|apply zF|apply zG)<;>intro)
 all_goals (try simp only [List.length_map, AV.d.injEq, D.int.injEq, D.bool.injEq, D.str.injEq, D.sl.injEq, true_and, and_true, decide_eq_true_eq, decide_eq_false_iff_not, decide_eq_decide])
 all_goals (try simp only [List.length_map] at *)
 all_goals first | rfl | omega
def IE (t : Tk) (j : Nat) : St := ⟨[(5, .ptr 0 0), (8, .d (.int .i64 j))], tkR t⟩
theorem rR (t t' : Tk) (j : Nat) (hj : j < 300) (k1 : FnOK Tryz.prog 11 [.ptr 0 0] (tkO t) (.tup []) (tkO t')) : Runs Tryz.prog 0 (loopN Tryz.prog 4 1) (St.as (IE t j) 97) (.normal) (St.as (IE t' (j+1)) 97) := by
 refine round_wp (p := condP (decide ((↑j : Int) < (300 : Int))) ((FnOK Tryz.prog 11 [AV.ptr 0 0] [Ob.box (ppC t.e0 ++ (ppC t.e1 ++ [AV.own 1 8, AV.own 2 8, vS t.w0, vS t.w1, vS t.r0, vS t.r1, vI t.now])), Ob.row 8 (List.map C13.sgD t.s0), Ob.row 8 (List.map C13.sgD t.s1)] (AV.tup []) [Ob.box (ppC t'.e0 ++ (ppC t'.e1 ++ [AV.own 1 8, AV.own 2 8, vS t'.w0, vS t'.w1, vS t'.r0, vS t'.r1, vI t'.now])), Ob.row 8 (List.map C13.sgD t'.s0), Ob.row 8 (List.map C13.sgD t'.s1)]) ∧ (rf (AV.ptr 0 0)) ∧ (vI (IntKind.i64.wrap ((↑j : Int) + (1 : Int))) = vI (↑(j + 1) : Int)) ∧ (rf (Ob.box (ppC t'.e0 ++ (ppC t'.e1 ++ [AV.own 1 8, AV.own 2 8, vS t'.w0, vS t'.w1, vS t'.r0, vS t'.r1, vI t'.now])))) ∧ (rf (Ob.row 8 (List.map C13.sgD t'.s0))) ∧ (rf (Ob.row 8 (List.map C13.sgD t'.s1))) ∧ True) (False)) (h := {H := [(13, [(1, .call [0, 1, 2] (.tup []) (tkO t'))])]}) (subs := []) (ws := []) (ρ := []) (by kernel_rfl) ?_
 have hi := inc_i64 (j := j) (by omega)
 rw [hi]
 refine condP_t (by rw [decide_eq_true_eq]; omega) ?_
 repeat' (with_reducible first|exact ⟨⟩|apply And.intro|(first|apply zA|apply zB|apply zC|apply zD|apply zE|apply zF|apply zG)<;>intro)
 all_goals first | exact k1 | rfl | omega | skip
theorem qR (t : Tk) : Runs Tryz.prog 0 (loopN Tryz.prog 4 1) (St.as (IE t 300) 97) (.exit 2) (St.as (IE t 300) 97) := by
 refine round_wp (p := (rf (AV.ptr 0 0)) ∧ (rf (vI 300)) ∧ (rf (Ob.box (ppC t.e0 ++ (ppC t.e1 ++ [AV.own 1 8, AV.own 2 8, vS t.w0, vS t.w1, vS t.r0, vS t.r1, vI t.now])))) ∧ (rf (Ob.row 8 (List.map C13.sgD t.s0))) ∧ (rf (Ob.row 8 (List.map C13.sgD t.s1))) ∧ True) (h := {}) (subs := []) (ws := []) (ρ := []) (by kernel_rfl) ?_
 repeat' (with_reducible first|exact ⟨⟩|apply And.intro|(first|apply zA|apply zB|apply zC|apply zD|apply zE|apply zF|apply zG)<;>intro)
 all_goals (try simp only [List.length_map, AV.d.injEq, D.int.injEq, D.bool.injEq, D.str.injEq, D.sl.injEq, true_and, and_true, decide_eq_true_eq, decide_eq_false_iff_not, decide_eq_decide])
 all_goals (try simp only [List.length_map] at *)
 all_goals first | rfl | omega
theorem ends4n (a b : Int) (l : List De) (h : fewB l 60 = false) : FnOK Tryz.prog 4 ([.d (.agg [.int .u32 a, .int .u32 b]), .d (.sl (l.map deD))]) ([]) (.d (.bool true)) ([]) := by
 refine fnOK_wp (p := (FnOK Tryz.prog 6 [vL (List.map deD l), vI 60] [] (vB false) []) ∧ (FnOK Tryz.prog 7 [] [] (vB true) []) ∧ (rf (vB true)) ∧ True) (h := {G := [(6, gA (.d (.bool false))), (7, gA (.d (.bool true)))]}) (subs := []) (ws := []) (ρ := []) (by kernel_rfl) ?_
 have k1 := few6 l 60 (by decide)
 rw [h] at k1
 repeat' (with_reducible first|exact ⟨⟩|apply And.intro|(first|apply zA|apply zB|apply zC|apply zD|apply zE|apply zF|apply zG)<;>intro)
 all_goals first | exact k1 | exact aw7 | rfl | skip
theorem ends4 (a b : Int) (l : List De) (t z : Tk) (h : fewB l 60 = true) (hL : Loops Tryz.prog 0 (loopN Tryz.prog 4 0) ((IP l (t0 a b) 0).as 97) (.exit 0) ((IP l t l.length).as 97)) (hL2 : Loops Tryz.prog 0 (loopN Tryz.prog 4 1) ((IE t 0).as 97) (.exit 2) ((IE z 300).as 97)) (e0 : z.r0 = z.w1) (e1 : z.r1 = z.w0) (k3 : FnOK Tryz.prog 12 [.d (ppD z.e0)] [] (.d (.bool true)) []) (k4 : FnOK Tryz.prog 12 [.d (ppD z.e1)] [] (.d (.bool true)) []) (k5 : FnOK Tryz.prog 13 [.d (ppD z.e0)] [] (.d (.bool true)) []) (k6 : FnOK Tryz.prog 13 [.d (ppD z.e1)] [] (.d (.bool true)) []) : FnOK Tryz.prog 4 ([.d (.agg [.int .u32 a, .int .u32 b]), .d (.sl (l.map deD))]) ([]) (.d (.bool true)) ([]) := by
 refine fnOK_wp (p := (FnOK Tryz.prog 6 [vL (List.map deD l), vI 60] [] (vB true) []) ∧ (FnOK Tryz.prog 8 [AV.d (.agg [D.int .u32 a, D.int .u32 b])] [] (AV.tup [AV.ptr 0 0, vB true]) [Ob.box [vU (t0 a b).e0.sh.g, vI (t0 a b).e0.sh.p, vI (t0 a b).e0.sh.e, vW (t0 a b).e0.sh.m, vW (t0 a b).e0.sh.h, vI (t0 a b).e0.sq.b, vS (t0 a b).e0.sq.d, vI (t0 a b).e0.sq.n, vL [], vL [], vI (t0 a b).e0.rq.b, vS (t0 a b).e0.rq.r, vL [], vI (t0 a b).e0.rt.s, vI (t0 a b).e0.rt.v, vB false, vI (t0 a b).e0.rt.h, vI (t0 a b).e0.wn.w, vI (t0 a b).e0.wn.t, vI (t0 a b).e0.wn.p, vI (t0 a b).e0.li, vI (t0 a b).e0.no, vI (t0 a b).e0.he, vI (t0 a b).e0.nx, vI (t0 a b).e0.pr, vB false, vU (t0 a b).e1.sh.g, vI (t0 a b).e1.sh.p, vI (t0 a b).e1.sh.e, vW (t0 a b).e1.sh.m, vW (t0 a b).e1.sh.h, vI (t0 a b).e1.sq.b, vS (t0 a b).e1.sq.d, vI (t0 a b).e1.sq.n, vL [], vL [], vI (t0 a b).e1.rq.b, vS (t0 a b).e1.rq.r, vL [], vI (t0 a b).e1.rt.s, vI (t0 a b).e1.rt.v, vB false, vI (t0 a b).e1.rt.h, vI (t0 a b).e1.wn.w, vI (t0 a b).e1.wn.t, vI (t0 a b).e1.wn.p, vI (t0 a b).e1.li, vI (t0 a b).e1.no, vI (t0 a b).e1.he, vI (t0 a b).e1.nx, vI (t0 a b).e1.pr, vB false, AV.own 1 8, AV.own 2 8, vS (t0 a b).w0, vS (t0 a b).w1, vS (t0 a b).r0, vS (t0 a b).r1, vI (t0 a b).now], Ob.row 8 [], Ob.row 8 []]) ∧ (rf (vL (List.map deD l))) ∧ (rf (AV.ptr 1120 0)) ∧ (rf (vI 0)) ∧ (rf (Ob.box [vU (t0 a b).e0.sh.g, vI (t0 a b).e0.sh.p, vI (t0 a b).e0.sh.e, vW (t0 a b).e0.sh.m, vW (t0 a b).e0.sh.h, vI (t0 a b).e0.sq.b, vS (t0 a b).e0.sq.d, vI (t0 a b).e0.sq.n, vL [], vL [], vI (t0 a b).e0.rq.b, vS (t0 a b).e0.rq.r, vL [], vI (t0 a b).e0.rt.s, vI (t0 a b).e0.rt.v, vB false, vI (t0 a b).e0.rt.h, vI (t0 a b).e0.wn.w, vI (t0 a b).e0.wn.t, vI (t0 a b).e0.wn.p, vI (t0 a b).e0.li, vI (t0 a b).e0.no, vI (t0 a b).e0.he, vI (t0 a b).e0.nx, vI (t0 a b).e0.pr, vB false, vU (t0 a b).e1.sh.g, vI (t0 a b).e1.sh.p, vI (t0 a b).e1.sh.e, vW (t0 a b).e1.sh.m, vW (t0 a b).e1.sh.h, vI (t0 a b).e1.sq.b, vS (t0 a b).e1.sq.d, vI (t0 a b).e1.sq.n, vL [], vL [], vI (t0 a b).e1.rq.b, vS (t0 a b).e1.rq.r, vL [], vI (t0 a b).e1.rt.s, vI (t0 a b).e1.rt.v, vB false, vI (t0 a b).e1.rt.h, vI (t0 a b).e1.wn.w, vI (t0 a b).e1.wn.t, vI (t0 a b).e1.wn.p, vI (t0 a b).e1.li, vI (t0 a b).e1.no, vI (t0 a b).e1.he, vI (t0 a b).e1.nx, vI (t0 a b).e1.pr, vB false, AV.own 1121 8, AV.own 1122 8, vS (t0 a b).w0, vS (t0 a b).w1, vS (t0 a b).r0, vS (t0 a b).r1, vI (t0 a b).now])) ∧ (rf (Ob.row 8 [])) ∧ (rf (Ob.row 8 [])) ∧ (LoopsS Tryz.prog 0 (loopN Tryz.prog 4 0) (IP l (t0 a b) 0) (Exit.exit 0) (IP l t l.length) 97) ∧ (rf (AV.ptr 0 0)) ∧ (rf (vI 0)) ∧ (rf (Ob.box (ppC t.e0 ++ (ppC t.e1 ++ [AV.own 1 8, AV.own 2 8, vS t.w0, vS t.w1, vS t.r0, vS t.r1, vI t.now])))) ∧ (rf (Ob.row 8 (List.map C13.sgD t.s0))) ∧ (rf (Ob.row 8 (List.map C13.sgD t.s1))) ∧ (LoopsS Tryz.prog 0 (loopN Tryz.prog 4 1) (IE t 0) (Exit.exit 2) (IE z 300) 97) ∧ ((0 : Int) ≤ (0 : Int) ∧ (0 : Int) < (↑2 : Int)) ∧ ((0 : Int) ≤ (1 : Int) ∧ (1 : Int) < (↑2 : Int)) ∧ (D.bool (z.r0 == z.w1) = D.bool true) ∧ (rf (D.bool true)) ∧ ((0 : Int) ≤ (1 : Int) ∧ (1 : Int) < (↑2 : Int)) ∧ ((0 : Int) ≤ (0 : Int) ∧ (0 : Int) < (↑2 : Int)) ∧ (D.bool (z.r1 == z.w0) = D.bool true) ∧ (rf (D.bool true)) ∧ (rf (D.bool true)) ∧ ((0 : Int) ≤ (0 : Int) ∧ (0 : Int) < (↑2 : Int)) ∧ (FnOK Tryz.prog 12 [AV.d (ppD z.e0)] [] (vB true) []) ∧ (rf (D.bool true)) ∧ (rf (D.bool true)) ∧ ((0 : Int) ≤ (1 : Int) ∧ (1 : Int) < (↑2 : Int)) ∧ (FnOK Tryz.prog 12 [AV.d (ppD z.e1)] [] (vB true) []) ∧ (rf (D.bool true)) ∧ (rf (D.bool true)) ∧ ((0 : Int) ≤ (0 : Int) ∧ (0 : Int) < (↑2 : Int)) ∧ (FnOK Tryz.prog 13 [AV.d (ppD z.e0)] [] (vB true) []) ∧ (rf (D.bool true)) ∧ (rf (D.bool true)) ∧ ((0 : Int) ≤ (1 : Int) ∧ (1 : Int) < (↑2 : Int)) ∧ (FnOK Tryz.prog 13 [AV.d (ppD z.e1)] [] (vB true) []) ∧ (rf (D.bool true)) ∧ (rf (D.bool true)) ∧ (FnOK Tryz.prog 7 [] [] (vB true) []) ∧ (rf (D.bool true)) ∧ (rf (vB true)) ∧ True) (h := {chain := true, H := [(1, [(1, .call [] (.d (.bool true)) [])]), (3, [(1, .call [] (.tup [.ptr 0 0, .d (.bool true)]) (tkO (t0 a b)))]), (14, [(10, .val (.bool true)), (22, .val (.bool true)), (23, .val (.bool true)), (30, .call [] (.d (.bool true)) []), (31, .val (.bool true)), (38, .call [] (.d (.bool true)) []), (39, .val (.bool true)), (46, .call [] (.d (.bool true)) []), (47, .val (.bool true)), (54, .call [] (.d (.bool true)) []), (55, .val (.bool true)), (57, .call [] (.d (.bool true)) []), (58, .val (.bool true))])]}) (subs := [⟨[], [], IP l (t0 a b) 0, .exit 0, IP l t l.length⟩, ⟨[], [], IE t 0, .exit 2, IE z 300⟩]) (ws := []) (ρ := []) (by kernel_rfl) ?_
 have k1 := few6 l 60 (by decide)
 rw [h] at k1
 have k2 := begun8 a b
 repeat' (with_reducible first|exact ⟨⟩|apply And.intro|(first|apply zA|apply zB|apply zC|apply zD|apply zE|apply zF|apply zG)<;>intro)
 all_goals first | exact k1 | exact k2 | exact aw7 | exact hL | exact hL2 | exact k3 | exact k4 | exact k5 | exact k6 | rfl | decide | omega | (refine congrArg D.bool ?_; simp [*]; done) | skip
theorem stepE {m0 m1 : Int} {t : Tk} {j : Nat} (h : TI m0 m1 t j) (l : List De) (hl : l.length ≤ 100) (hx : ∀ d ∈ l, DeOk d) (hs : ∀ d ∈ l, d.t.length ≤ 200) (d : De) (hn : l[j]? = some d) :
  Runs Tryz.prog 0 (loopN Tryz.prog 4 0) ((IP l t j).as 97) .normal ((IP l (tDeed t d) (j + 1)).as 97) := by
 have hj := get_lt hn
 have hm := get_mem hn
 rcases deed9 h (by omega) d (hs d hm) (hx d hm).1 (hx d hm).2 with k | k | k
 ·exact rEo l hl t _ j d hn k
 ·exact rEp l hl t _ j d hn k
 ·exact rEq l hl t _ j d hn k
theorem pipeEnds_ok (x0 : D) (s0 : ∃ ds, CK.hasL [.int .u32, .int .u32] ds ∧ (if true then x0 = .agg ds else ds = [x0])) (x1 : D) (s1 : ∃ ds, CK.hasL [.sl true [.int .u8, .int .u8, .str]] ds ∧ (if false then x1 = .agg ds else ds = [x1])) :
  FnOK Tryz.prog 4 [.d x0, .d x1] [] (.d (.bool true)) [] := by
 obtain ⟨a, b, rfl, ha, hb⟩ := two_of x0 s0
 obtain ⟨l, rfl, hx⟩ := des_of x1 s1
 cases hf : fewB l 60
 ·exact ends4n a b l hf
 ·obtain ⟨hl, hs⟩ := fewB_iff.1 hf
  have hL := loops_n (P := Tryz.prog) (k := 0) (c := loopN Tryz.prog 4 0) (e := .exit 0) (I := fun j => (IP l (tn a b l j) j).as 97) (by simp) l.length 0 (by omega) (fun j _ hj => by
   have hn := get_of hj
   have := stepE (ti_tn ha hb (by omega) hs j (by omega)) l (by omega) hx hs _ hn
   rw [← tn_succ hn] at this
   exact this) (qE l _)
  have hT := ti_tn ha hb (by omega) hs l.length (Nat.le_refl _)
  have hV := tv_tn ha hb hl hs l.length (Nat.le_refl _)
  have hE := deeds_end ha hb hl hs
  generalize tn a b l l.length = t at hL hT hV hE
  have nw := hT.nw
  have wl := hT.wl
  have hL2 := loops_n (P := Tryz.prog) (k := 0) (c := loopN Tryz.prog 4 1) (e := .exit 2) (I := fun j => (IE (tRs j t) j).as 97) (by simp) 300 0 (by omega) (fun j _ hj => by
   obtain ⟨k1, kw, k2⟩ := lk_rs (m0 := a) (m1 := b) hV.c.l ⟨by omega, by omega⟩ nw.1 (by omega) j (by omega)
   have := rR (tRs j t) (tRound (tRs j t)) j hj (round11 k1 kw (by omega))
   rw [← tRs_succ] at this
   exact this) (qR _)
  generalize tRs 300 t = z at hE hL2
  have k3 := alive12 z.e0
  have k4 := alive12 z.e1
  have k5 := idle13 z.e0
  have k6 := idle13 z.e1
  rw [show pUp z.e0 = true from beq_iff_eq.2 hE.g0] at k3
  rw [show pUp z.e1 = true from beq_iff_eq.2 hE.g1] at k4
  rw [hE.d0] at k5
  rw [hE.d1] at k6
  exact ends4 a b l t z hf hL hL2 hE.r0 hE.r1 k3 k4 k5 k6
end Go.Proofs.YtalpfhpeaaocmaaGreat
end
section
namespace Go.Proofs.YtalpfhpeaaocmaaGreat.pipeEnds
open Go.ChangeShapes Go.WideShapes Go.ChangeAt Go.RowKit Go.Proofs.YtalpfhpeaaocmaaGreat.Sx
theorem own : ownKnob Tryz.prog.godebug = none := by kernel_rfl
theorem laidOut : laidOutB Tryz.prog = true := by kernel_rfl
theorem sh0 : Sx.shape Tryz.prog 8 23 = some (true, [.int .u32, .int .u32]) := by kernel_rfl
theorem sh1 : Sx.shape Tryz.prog 8 24 = some (false, [.sl true [.int .u8, .int .u8, .str]]) := by kernel_rfl
theorem lifted (os : Os) (started : os.Started) (H : Type) (enc : TypeId × Value → H) :
  ReturnsInHanded {} Tryz.checked os 4 .any (Rows.pipeEndsSpec.pre6 enc Tryz.prog Tryz.f4 Rows.pipeEndsRow.domain false) (Rows.pipeEndsSpec.post enc Tryz.prog Tryz.f4 false true false false) := by
 refine returnsInHanded_of_change (C := Tryz.checked) own started (by kernel_rfl) Tryz.func4
  (ChangeSpec.witness6 (enc := enc) (C := Tryz.checked) false ⟨#[], #[.agg #[.int .u32 0, .int .u32 0], .slice none 0 0], []⟩ 8 (by kernel_rfl) (by kernel_rfl) (by kernel_rfl) (by kernel_rfl)) ?_
 intro W base args ds gs before hval0 hW hcnd _
 have hval : ∀ (j : Nat) t v, Tryz.f4.params[j]? = some t → args[j]? = some v → Value.okWide Tryz.prog W .any base t v := hval0
 have hW' := hW
 obtain ⟨p, q, hA0, hV, rfl, hfz, hnd⟩ := hW
 have hA : DataW.TrodAll enc Tryz.prog W 0 (fun _ => true) true Tryz.f4.params.toList args.toList ds p := hA0
 rw [Tryz.params4] at hA hval
 obtain ⟨v0, vs0, d0, ds0, p0, q0, hargs, rfl, rfl, h0, r0⟩ := trodAll_cons hA
 obtain ⟨v1, vs1, d1, ds1, p1, q1, rfl, rfl, rfl, h1, r1⟩ := trodAll_cons r0
 obtain ⟨rfl, rfl, rfl⟩ := trodAll_nil r1
 obtain rfl : args = #[v0, v1] := by cases args; simp_all
 obtain ⟨rfl, rfl⟩ := trodVars_none hV
 obtain ⟨x0, s0, w0⟩ := arg_rep sh0 (hval 0 23 v0 rfl rfl) h0
 have lt0 : ∀ x ∈ p0, x.block < W.heap.size := by obtain ⟨m, hm⟩ := h0; exact DataW.trod_lt m _ _ _ hm
 obtain ⟨x1, s1, w1⟩ := arg_rep sh1 (hval 1 24 v1 rfl rfl) h1
 have lt1 : ∀ x ∈ p1, x.block < W.heap.size := by obtain ⟨m, hm⟩ := h1; exact DataW.trod_lt m _ _ _ hm
 clear hA0 hval0
 refine (calls_of_fnOK (ds := [x0, x1]) (pipeEnds_ok x0 s0 x1 s1) rfl (fun j d hj => by
  cases j with | zero => cases hj; exact w0 | succ j =>
  cases j with | zero => cases hj; exact w1 | succ j =>
  simp at hj)).mono fun e W' ⟨he, bel⟩ => ?_
 subst he
 exact ⟨_, rfl, _, _, _, [], _, [], hW', trodAll_mk1 (shut_bool (by kernel_rfl) _), (trodAll_cons_mk (Below.trod laidOut (by kernel_rfl) (of_decide_eq_true (by kernel_rfl)) h0 bel lt0) (trodAll_cons_mk (Below.trod laidOut (by kernel_rfl) (of_decide_eq_true (by kernel_rfl)) h1 bel lt1) trodAll_mk0)), rfl, bel.frame _, fun h => by cases h⟩
theorem over : Rows.pipeEndsRow.holds Tryz.pinned (OpenSpec.ofChange Rows.pipeEndsSpec) :=
 OpenClaim.holds_of_wide 4 Tryz.f4 rfl rfl rfl rfl rfl rfl rfl ⟨rfl, rfl, rfl, rfl, rfl⟩ rfl rfl rfl rfl rfl (by kernel_rfl) Tryz.func4 (by kernel_rfl)
  (of_decide_eq_true (by kernel_rfl)) (by unfold Func.isWrapper; first | (rw [if_pos (by decide +kernel)]; kernel_rfl) | (rw [if_neg (by decide +kernel)]; exact ⟨rfl, rfl⟩))
  (fun os started H enc _ => lifted os started H enc)
theorem holds : Rows.PipeEndsSaid := over
end Go.Proofs.YtalpfhpeaaocmaaGreat.pipeEnds
end
