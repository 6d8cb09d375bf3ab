/-
Part 7 of 9 of the proof of pipeEnds: the lemmas that it needs, of the texts C12B, S0, C12C, S6, C11V, C12D, S12, S1, S2, S3, S3J. No condition but those that each lemma names.
-/
import Derived.Test.YtalpfhpeaaocmaaGreatE3
import Derived.Test.YtalpfhpeaaocmaaGreatE4
import Derived.Test.YtalpfhpeaaocmaaGreatE6
import Derived.Test.YtalpfhpeaaocmaaGreatProg
import Derived.KernelRfl
import Derived.Test.YtalpfhpeaaocmaaGreatE1
import Derived.Test.YtalpfhpeaaocmaaGreatE2
import Derived.Test.YtalpfhpeaaocmaaGreatE5

set_option linter.unusedSimpArgs false
set_option linter.unusedVariables false
set_option maxRecDepth 100000
set_option maxHeartbeats 1000000
section
namespace Go.Proofs.YtalpfhpeaaocmaaGreat.C12
open Sx Go.RowKit
def ivP (x : Pt) : C06.Iv := (x.a, pEnd x)
def rBlk (s : Rq) (most : Int) : List C06.Iv := if rChk s = 0 then (s.p.map ivP).take most.toNat else []
theorem ivp_take {l : List Pt} {j : Nat} {x : Pt} (h : l[j]? = some x) : (l.take (j + 1)).map ivP = (l.take j).map ivP ++ [ivP x] := by
 rw [take_snoc h, List.map_append]; rfl
def I24 (s : Rq) (most : Int) (j : Nat) : St := ⟨[(1, .d (.int .i64 most)), (2, .ptr 0 0), (5, .own 1 2), (12, .d (.sl (s.p.map ptD))), (13, .d (.int .i64 s.p.length)), (14, .d (.int .i64 j))], [(0, rqB s), (1, .row 2 ((((s.p.take j).map ivP).take most.toNat).map C06.ivD))]⟩
theorem r24a (s : Rq) (hb : Rb s) (most : Int) (j : Nat) (x : Pt) (hn : s.p[j]? = some x) (hw : IntKind.i64.wrap (pEnd x) = pEnd x) (hm : (j : Int) < most) : Runs Tryz.prog 0 (loopN Tryz.prog 85 0) (St.as (I24 s most j) 32) (.normal) (St.as (I24 s most (j+1)) 32) := by
 refine round_wp (p := condP (decide ((↑j : Int) < (↑s.p.length : Int))) (((0 : Int) ≤ (↑j : Int)) ∧ ((List.map ptD s.p)[(↑j : Int).toNat]? = some (ptD x)) ∧ (D.bool (decide ((↑(List.map C06.ivD (List.take most.toNat (List.map ivP (List.take j s.p)))).length : Int) < most)) = D.bool true) ∧ (FnOK Tryz.prog 94 [AV.d (ptD x)] [] (vI (pEnd x)) []) ∧ (((List.map C06.ivD (List.take most.toNat (List.map ivP (List.take j s.p)))).length + [D.agg (List.take 2 [D.int .i64 x.a, D.int .i64 (pEnd x)])].length) * 16 ≤ 140737488355328) ∧ (∀ (e : D), e ∈ chunk 2 1 [D.int .i64 x.a, D.int .i64 (pEnd x)] → e.cells.length = 2) ∧ (rf (vI most)) ∧ (rf (AV.ptr 0 0)) ∧ (rf (AV.own 1232 2)) ∧ (rf (vL (List.map ptD s.p))) ∧ (rf (vI (↑s.p.length : Int))) ∧ (vI (IntKind.i64.wrap ((↑j : Int) + (1 : Int))) = vI (↑(j + 1) : Int)) ∧ (rf (Ob.box [vI s.b, vS s.r, vL (List.map ptD s.p)])) ∧ (Ob.row 2 (List.map C06.ivD (List.take most.toNat (List.map ivP (List.take j s.p))) ++ [D.agg (List.take 2 [D.int .i64 x.a, D.int .i64 (pEnd x)])]) = Ob.row 2 (List.map C06.ivD (List.take most.toNat (List.map ivP (List.take (j + 1) s.p))))) ∧ True) (False)) (h := {els := [(12, .el (ptD x))], G := [(94, gAns (.d (.int .i64 (pEnd x))))], H := [(7, [(3, .val (.bool true))])]}) (subs := []) (ws := []) (ρ := []) (by kernel_rfl) ?_
 have hj := get_lt hn
 have hp := hb.p
 have hi := inc_i64 (j := j) (by omega)
 have k1 := end33 x hw
 have hl1 : ((s.p.take j).map ivP).length = j := by simp; omega
 rw [hi, ivp_take hn]
 simp only [List.length_map, List.length_take, hl1]
 refine condP_t (by rw [decide_eq_true_eq]; omega) ?_
 have e1 : ((s.p.take j).map ivP).take most.toNat = (s.p.take j).map ivP := List.take_of_length_le (by rw [hl1]; omega)
 have e2 : ((s.p.take j).map ivP ++ [ivP x]).take most.toNat = (s.p.take j).map ivP ++ [ivP x] := List.take_of_length_le (by rw [List.length_append, hl1]; simp; omega)
 rw [e1, e2, List.map_append]
 repeat' (with_reducible first|exact ⟨⟩|apply And.intro|(first|apply zA|apply zB|apply zC|apply zD|apply zE|apply zF|apply zG)<;>intro)
 all_goals first | exact k1 | exact el_map hn rfl | rfl | omega | exact dyes (by omega) | (rw [List.length_map, hl1]; simp; omega) | (simp; omega) | (simp [chunk, C06.ivD, D.cells]; done) | skip
theorem r24b (s : Rq) (hb : Rb s) (most : Int) (j : Nat) (x : Pt) (hn : s.p[j]? = some x) (hw : IntKind.i64.wrap (pEnd x) = pEnd x) (hm : ¬(j : Int) < most) : Runs Tryz.prog 0 (loopN Tryz.prog 85 0) (St.as (I24 s most j) 32) (.normal) (St.as (I24 s most (j+1)) 32) := by
 refine round_wp (p := condP (decide ((↑j : Int) < (↑s.p.length : Int))) (((0 : Int) ≤ (↑j : Int)) ∧ ((List.map ptD s.p)[(↑j : Int).toNat]? = some (ptD x)) ∧ (D.bool (decide ((↑(List.map C06.ivD (List.take most.toNat (List.map ivP (List.take j s.p)))).length : Int) < most)) = D.bool false) ∧ (rf (vI most)) ∧ (rf (AV.ptr 0 0)) ∧ (rf (AV.own 1 2)) ∧ (rf (vL (List.map ptD s.p))) ∧ (rf (vI (↑s.p.length : Int))) ∧ (vI (IntKind.i64.wrap ((↑j : Int) + (1 : Int))) = vI (↑(j + 1) : Int)) ∧ (rf (Ob.box [vI s.b, vS s.r, vL (List.map ptD s.p)])) ∧ (Ob.row 2 (List.map C06.ivD (List.take most.toNat (List.map ivP (List.take j s.p)))) = Ob.row 2 (List.map C06.ivD (List.take most.toNat (List.map ivP (List.take (j + 1) s.p))))) ∧ True) (False)) (h := {els := [(12, .el (ptD x))], H := [(7, [(3, .val (.bool false))])]}) (subs := []) (ws := []) (ρ := []) (by kernel_rfl) ?_
 have hj := get_lt hn
 have hp := hb.p
 have hi := inc_i64 (j := j) (by omega)
 have k1 := end33 x hw
 have hl1 : ((s.p.take j).map ivP).length = j := by simp; omega
 rw [hi, ivp_take hn]
 simp only [List.length_map, List.length_take, hl1]
 refine condP_t (by rw [decide_eq_true_eq]; omega) ?_
 have e2 : ((s.p.take j).map ivP ++ [ivP x]).take most.toNat = ((s.p.take j).map ivP).take most.toNat := List.take_append_of_le_length (by rw [hl1]; omega)
 rw [e2]
 repeat' (with_reducible first|exact ⟨⟩|apply And.intro|(first|apply zA|apply zB|apply zC|apply zD|apply zE|apply zF|apply zG)<;>intro)
 all_goals first | exact k1 | exact el_map hn rfl | rfl | omega | exact dno (by omega) | skip
theorem q24 (s : Rq) (most : Int) : Runs Tryz.prog 0 (loopN Tryz.prog 85 0) (St.as (I24 s most s.p.length) 32) (.exit 0) (St.as (I24 s most s.p.length) 32) := by
 refine round_wp (p := condP (decide ((↑s.p.length : Int) < (↑s.p.length : Int))) (False) ((rf (vI most)) ∧ (rf (AV.ptr 0 0)) ∧ (rf (AV.own 1 2)) ∧ (rf (vL (List.map ptD s.p))) ∧ (rf (vI (↑s.p.length : Int))) ∧ (rf (vI (↑s.p.length : Int))) ∧ (rf (Ob.box [vI s.b, vS s.r, vL (List.map ptD s.p)])) ∧ (rf (Ob.row 2 (List.map C06.ivD (List.take most.toNat (List.map ivP (List.take s.p.length s.p)))))) ∧ True)) (h := {}) (subs := []) (ws := []) (ρ := []) (by kernel_rfl) ?_
 repeat' (with_reducible first|exact ⟨⟩|apply And.intro|(first|apply zA|apply zB|apply zC|apply zD|apply zE|apply zF|apply zG)<;>intro)
 all_goals (try simp only [List.length_map, AV.d.injEq, D.int.injEq, D.bool.injEq, D.str.injEq, D.sl.injEq, true_and, and_true, decide_eq_true_eq, decide_eq_false_iff_not, decide_eq_decide])
 all_goals (try simp only [List.length_map] at *)
 all_goals first | rfl | omega
theorem blk24e (s : Rq) (hb : Rb s) (most e : Int) (he : rChk s = e) (h1 : e ≠ 0) : FnOK Tryz.prog 85 ([.d (rqD s), .d (.int .i64 most)]) ([]) (.d (.sl [])) ([]) := by
 refine fnOK_wp (p := (FnOK Tryz.prog 66 [AV.d (rqD s)] [] (vI e) []) ∧ (D.bool (e != (0 : Int)) = D.bool true) ∧ (rf (vL [])) ∧ True) (h := {G := [(66, gAns (.d (.int .i64 e)))], H := [(1, [(2, .val (.bool true))])]}) (subs := []) (ws := []) (ρ := []) (by kernel_rfl) ?_
 have k1 := chk17 s hb
 rw [he] at k1
 repeat' (with_reducible first|exact ⟨⟩|apply And.intro|(first|apply zA|apply zB|apply zC|apply zD|apply zE|apply zF|apply zG)<;>intro)
 all_goals first | exact k1 | rfl | (refine congrArg D.bool ?_; simpa using h1) | skip
theorem blk24y (s : Rq) (hb : Rb s) (most : Int) (he : rChk s = 0) (hL : Loops Tryz.prog 0 (loopN Tryz.prog 85 0) ((I24 s most 0).as 32) (.exit 0) ((I24 s most s.p.length).as 32)) : FnOK Tryz.prog 85 ([.d (rqD s), .d (.int .i64 most)]) ([]) (.d (.sl (((s.p.map ivP).take most.toNat).map C06.ivD))) ([]) := by
 refine fnOK_wp (p := (FnOK Tryz.prog 66 [AV.d (rqD s)] [] (vI 0) []) ∧ (rf (vI most)) ∧ (rf (AV.ptr 1016 0)) ∧ (rf (AV.own 901 2)) ∧ (rf (vL (List.map ptD s.p))) ∧ (vI (↑(List.map ptD s.p).length : Int) = vI (↑s.p.length : Int)) ∧ (rf (vI 0)) ∧ (rf (Ob.box [vI s.b, vS s.r, vL (List.map ptD s.p)])) ∧ (Ob.row 2 [] = Ob.row 2 (List.map C06.ivD (List.take most.toNat (List.map ivP (List.take 0 s.p))))) ∧ (LoopsS Tryz.prog 0 (loopN Tryz.prog 85 0) (I24 s most 0) (Exit.exit 0) (I24 s most s.p.length) 32) ∧ (vL (List.map C06.ivD (List.take most.toNat (List.map ivP (List.take s.p.length s.p)))) = vL (List.map C06.ivD (List.take most.toNat (List.map ivP s.p)))) ∧ True) (h := {G := [(66, gAns (.d (.int .i64 0)))]}) (subs := [⟨[], [], I24 s most 0, .exit 0, I24 s most s.p.length⟩]) (ws := []) (ρ := []) (by kernel_rfl) ?_
 have k1 := chk17 s hb
 rw [he] at k1
 simp only [List.length_map]
 repeat' (with_reducible first|exact ⟨⟩|apply And.intro|(first|apply zA|apply zB|apply zC|apply zD|apply zE|apply zF|apply zG)<;>intro)
 all_goals first | exact k1 | exact hL | rfl | (simp; done) | (rw [List.take_length]; rfl) | (rw [List.take_length]; done) | skip
theorem blk24 (s : Rq) (hb : Rb s) (most : Int) : FnOK Tryz.prog 85 [.d (rqD s), .d (.int .i64 most)] [] (.d (.sl ((rBlk s most).map C06.ivD))) [] := by
 unfold rBlk
 by_cases he : rChk s = 0
 ·rw [if_pos he]
  have hz := chk_zero he
  have hm := rBad_mem (rLim_le s) hz.1.1 hz.2
  refine blk24y s hb most he (loops_n (I := fun j => (I24 s most j).as 32) (by simp) s.p.length 0 (by omega) (fun j _ hj => ?_) (q24 s most))
  have hw := (hm _ (List.getElem_mem hj)).2
  by_cases h : (j : Int) < most
  ·exact r24a s hb most j _ (get_of hj) hw h
  ·exact r24b s hb most j _ (get_of hj) hw h
 ·rw [if_neg he]; exact blk24e s hb most _ rfl he
end Go.Proofs.YtalpfhpeaaocmaaGreat.C12
end
section
namespace Go.Proofs.YtalpfhpeaaocmaaGreat
open Sx Go.RowKit
structure Pp where
 sh : C13.Nd
 sq : C11.Sq
 rq : C12.Rq
 rt : C08.Rtt
 wn : C10.Aim
 li : Int
 no : Int
 he : Int
 nx : Int
 pr : Int
 du : Bool
def ppL (s : Pp) : List D := [.int .u8 s.sh.g, .int .i64 s.sh.p, .int .i64 s.sh.e, .int .u32 s.sh.m, .int .u32 s.sh.h,
 .int .i64 s.sq.b, .str s.sq.d, .int .i64 s.sq.n, .sl (s.sq.fl.map C11.ckD), .sl (s.sq.cm.map C06.ivD),
 .int .i64 s.rq.b, .str s.rq.r, .sl (s.rq.p.map C12.ptD), .int .i64 s.rt.s, .int .i64 s.rt.v, .bool s.rt.k, .int .i64 s.rt.h,
 .int .i64 s.wn.w, .int .i64 s.wn.t, .int .i64 s.wn.p, .int .i64 s.li, .int .i64 s.no, .int .i64 s.he, .int .i64 s.nx, .int .i64 s.pr, .bool s.du]
def ppD (s : Pp) : D := .agg (ppL s)
def ppB (s : Pp) : Ob := .box [.d (.int .u8 s.sh.g), .d (.int .i64 s.sh.p), .d (.int .i64 s.sh.e), .d (.int .u32 s.sh.m), .d (.int .u32 s.sh.h),
 .d (.int .i64 s.sq.b), .d (.str s.sq.d), .d (.int .i64 s.sq.n), .d (.sl (s.sq.fl.map C11.ckD)), .d (.sl (s.sq.cm.map C06.ivD)),
 .d (.int .i64 s.rq.b), .d (.str s.rq.r), .d (.sl (s.rq.p.map C12.ptD)), .d (.int .i64 s.rt.s), .d (.int .i64 s.rt.v), .d (.bool s.rt.k), .d (.int .i64 s.rt.h),
 .d (.int .i64 s.wn.w), .d (.int .i64 s.wn.t), .d (.int .i64 s.wn.p), .d (.int .i64 s.li), .d (.int .i64 s.no), .d (.int .i64 s.he), .d (.int .i64 s.nx), .d (.int .i64 s.pr), .d (.bool s.du)]
def pDead (s : Pp) : Bool := s.sh.g == 4
def pUp (s : Pp) : Bool := s.sh.g == 3
def pKill (s : Pp) : Pp := { s with sh := C13.nAt s.sh 4 }
def pOpen (s : Pp) : Pp := if s.sh.g = 0 then { s with sh := C13.nAsk s.sh, he := s.no } else s
def pNew (p e m : Int) : Pp := ⟨C13.nNew p e m, ⟨0, [], 0, [], []⟩, ⟨0, [], []⟩, C08.rNew, C10.aNew, 4096, 0, 0, 0, 0, false⟩
def pWrite (s : Pp) (x : List UInt8) : Pp × Int := if pDead s = true then (s, 0) else ({ s with sq := (C11.rWrite s.sq x).1 }, (C11.rWrite s.sq x).2)
def pFree (s : Pp) : Int := IntKind.i64.wrap (C12.rLim s.rq - s.rq.b)
def pRead (s : Pp) (n : Int) : Pp × List UInt8 :=
 ({ s with rq := (C12.rRead s.rq n).1, du := s.du || (decide (pFree s < 48) && decide ((C12.rRead s.rq n).2 ≠ [])) }, (C12.rRead s.rq n).2)
def pRoom (s : Pp) : Int := if pDead s = true then 0 else IntKind.i64.wrap (4096 - (s.sq.d.length : Int))
def pTick (s : Pp) (now : Int) : Pp :=
 if now ≤ s.no ∨ now > 1099511627776 then s
 else if s.sh.g = 4 ∨ s.sh.g = 0 then { s with no := now }
 else if IntKind.i64.wrap (now - s.he) ≥ 200 then pKill { s with no := now }
 else if (C11.rOldest s.sq).2 = true ∧ IntKind.i64.wrap (now - (C11.rOldest s.sq).1) ≥ C08.rWait s.rt then { s with no := now, sq := (C11.rExpire s.sq).1, rt := C08.rExpire s.rt, wn := C10.aExpired s.wn }
 else { s with no := now }
def pNum (f a : Int) : Int := C13.aAdd f (IntKind.i64.wrap (a + 1))
def pPlc (f near n : Int) : Int := C04.sLong near (IntKind.u32.wrap (C13.aAdd n (-1) - f))
def bkD (x : Int × Int) : D := .agg [.int .u32 x.1, .int .u32 x.2]
def pBks (s : Pp) : List (Int × Int) := (C12.rBlk s.rq 3).map fun x => (pNum s.sh.h x.1, pNum s.sh.h x.2)
def pBear (s : Pp) (a : Int) (t : List UInt8) : C13.Sg :=
 ⟨2, s.sh.p, s.sh.e, pNum s.sh.m a, pNum s.sh.h s.rq.b, min (pFree s) 65535, (pBks s).map bkD, t⟩
def pPick (s : Pp) : C11.Sq × C11.Ck × List UInt8 := C11.rPick s.sq s.no s.wn.w s.li
def pSpeak (s : Pp) : Pp × C13.Sg × Bool :=
 if (pPick s).2.2 ≠ [] then ({ s with sq := (pPick s).1, du := false }, pBear s (pPick s).2.1.f (pPick s).2.2, true)
 else if s.du = false ∧ IntKind.i64.wrap (s.no - max s.he s.pr) < 16 then (s, C13.sgZ, false)
 else if s.du = true then ({ s with du := false }, pBear s s.sq.n [], true)
 else ({ s with du := false, pr := s.no }, { pBear s s.sq.n [] with f := 18 }, true)
def pGreet (s : Pp) : Pp × C13.Sg × Bool :=
 if C13.nSays s.sh = false ∨ s.no < s.nx then (s, C13.sgZ, false)
 else ({ s with nx := IntKind.i64.wrap (s.no + C08.rWait s.rt), rt := C08.rExpire s.rt }, C13.nOut s.sh, true)
def pOut (s : Pp) : Pp × C13.Sg × Bool := if pUp s = true then pSpeak s else pGreet s
/-- The places of a segment's blocks that may be. -/
def pIval (s : Pp) (cum : Int) (b : Int × Int) : C06.Iv := (pPlc s.sh.m (max cum 0) b.1, pPlc s.sh.m (max cum 0) b.2)
def pGood (s : Pp) (cum : Int) (x : C06.Iv) : Bool := decide (x.1 ≥ cum) && (decide (x.2 > x.1) && decide (x.2 ≤ s.sq.n))
def blkS (s : Pp) (cum : Int) (l : List C06.Iv) (b : Int × Int) : List C06.Iv := if pGood s cum (pIval s cum b) = true then C06.rAdd l (pIval s cum b) else l
def pBlocks (s : Pp) (l : List (Int × Int)) (cum : Int) : List C06.Iv := l.foldl (blkS s cum) []
def bkOf : D → Int × Int
 | .agg [.int _ a, .int _ b] => (a, b)
 | _ => (0, 0)
def pCum (s : Pp) (x : C13.Sg) : Int := pPlc s.sh.m s.sq.b x.a
def pAck (s : Pp) (x : C13.Sg) : C11.Sq × C11.Rp := C11.rAck s.sq (pCum s x) (pBlocks s (x.k.map bkOf) (pCum s x)) s.no
def pAcked (s : Pp) (x : C13.Sg) : Pp :=
 { s with
  li := if s.sq.b ≤ pCum s x ∧ pCum s x ≤ s.sq.n then max s.li (IntKind.i64.wrap (pCum s x + x.w)) else s.li
  sq := (pAck s x).1
  rt := if (pAck s x).2.s ≥ 0 then C08.rSample s.rt (pAck s x).2.s else s.rt
  wn := (fun w => if (pAck s x).2.l = true then C10.aLost w else w) (if (pAck s x).2.a > 0 then C10.aAcked s.wn (pAck s x).2.a else s.wn) }
def pGot (s : Pp) (x : C13.Sg) : Pp := if x.t ≠ [] then { s with rq := (C12.rPut s.rq (pPlc s.sh.h s.rq.b x.q) x.t).1 } else s
def pTook (s : Pp) (x : C13.Sg) : Pp :=
 let s1 := if C13.hasB x.f 2 = true ∧ C13.hasB x.f 1 = false then pAcked s x else s
 let s2 := pGot s1 x
 if C13.hasB x.f 1 = true ∨ x.t ≠ [] ∨ C13.hasB x.f 16 = true then { s2 with du := true } else s2
def pOn (s : Pp) (x : C13.Sg) : Pp :=
 if pDead s = true ∨ C13.nFit s.sh x = false then s
 else if pUp { s with he := s.no, sh := C13.nOn s.sh x } = true then pTook { s with he := s.no, sh := C13.nOn s.sh x } x else { s with he := s.no, sh := C13.nOn s.sh x }
def TK (s : Pp) (q : C12.Rq) (d : Bool) : Pp := { s with rq := q, du := d }
def pA (s : Pp) (x : C13.Sg) : Pp := if C13.hasB x.f 2 = true ∧ C13.hasB x.f 1 = false then pAcked s x else s
theorem pTook_eq (s : Pp) (x : C13.Sg) : pTook s x = TK (pA s x) (if x.t ≠ [] then (C12.rPut (pA s x).rq (pPlc (pA s x).sh.h (pA s x).rq.b x.q) x.t).1 else (pA s x).rq) ((C13.hasB x.f 1 || (decide (x.t ≠ []) || C13.hasB x.f 16)) || (pA s x).du) := by
 show (if _ then { pGot (pA s x) x with du := true } else pGot (pA s x) x) = _
 generalize pA s x = y
 unfold pGot
 by_cases ht : x.t ≠ []
 ·rw [if_pos (.inr (.inl ht)), decide_eq_true ht]
  simp only [if_pos ht]
  simp [TK]
 ·rw [decide_eq_false ht]
  simp only [if_neg ht]
  cases h1 : C13.hasB x.f 1 <;> cases h16 : C13.hasB x.f 16 <;> simp [TK, ht]
structure Tk where
 e0 : Pp
 e1 : Pp
 s0 : List C13.Sg
 s1 : List C13.Sg
 w0 : List UInt8
 w1 : List UInt8
 r0 : List UInt8
 r1 : List UInt8
 now : Int
structure De where
 k : Int
 n : Int
 t : List UInt8
def deD (d : De) : D := .agg [.int .u8 d.k, .int .u8 d.n, .str d.t]
end Go.Proofs.YtalpfhpeaaocmaaGreat
namespace Go.Proofs.YtalpfhpeaaocmaaGreat
open Sx
def pxD (a0 : Int) (a1 : Int) (a2 : Int) (a3 : Int) (a4 : Int) (a5 : Int) (a6 : List UInt8) (a7 : Int) (a8 : List C11.Ck) (a9 : List C06.Iv) (a10 : Int) (a11 : List UInt8) (a12 : List C12.Pt) (a13 : Int) (a14 : Int) (a15 : Bool) (a16 : Int) (a17 : Int) (a18 : Int) (a19 : Int) (a20 : Int) (a21 : Int) (a22 : Int) (a23 : Int) (a24 : Int) (a25 : Bool) : D := .agg [D.int .u8 a0, D.int .i64 a1, D.int .i64 a2, D.int .u32 a3, D.int .u32 a4, D.int .i64 a5, D.str a6, D.int .i64 a7, D.sl (List.map C11.ckD a8), D.sl (List.map C06.ivD a9), D.int .i64 a10, D.str a11, D.sl (List.map C12.ptD a12), D.int .i64 a13, D.int .i64 a14, D.bool a15, D.int .i64 a16, D.int .i64 a17, D.int .i64 a18, D.int .i64 a19, D.int .i64 a20, D.int .i64 a21, D.int .i64 a22, D.int .i64 a23, D.int .i64 a24, D.bool a25]
def pxC (a0 : Int) (a1 : Int) (a2 : Int) (a3 : Int) (a4 : Int) (a5 : Int) (a6 : List UInt8) (a7 : Int) (a8 : List C11.Ck) (a9 : List C06.Iv) (a10 : Int) (a11 : List UInt8) (a12 : List C12.Pt) (a13 : Int) (a14 : Int) (a15 : Bool) (a16 : Int) (a17 : Int) (a18 : Int) (a19 : Int) (a20 : Int) (a21 : Int) (a22 : Int) (a23 : Int) (a24 : Int) (a25 : Bool) : List AV := [.d (D.int .u8 a0), .d (D.int .i64 a1), .d (D.int .i64 a2), .d (D.int .u32 a3), .d (D.int .u32 a4), .d (D.int .i64 a5), .d (D.str a6), .d (D.int .i64 a7), .d (D.sl (List.map C11.ckD a8)), .d (D.sl (List.map C06.ivD a9)), .d (D.int .i64 a10), .d (D.str a11), .d (D.sl (List.map C12.ptD a12)), .d (D.int .i64 a13), .d (D.int .i64 a14), .d (D.bool a15), .d (D.int .i64 a16), .d (D.int .i64 a17), .d (D.int .i64 a18), .d (D.int .i64 a19), .d (D.int .i64 a20), .d (D.int .i64 a21), .d (D.int .i64 a22), .d (D.int .i64 a23), .d (D.int .i64 a24), .d (D.bool a25)]
def pxB (a0 : Int) (a1 : Int) (a2 : Int) (a3 : Int) (a4 : Int) (a5 : Int) (a6 : List UInt8) (a7 : Int) (a8 : List C11.Ck) (a9 : List C06.Iv) (a10 : Int) (a11 : List UInt8) (a12 : List C12.Pt) (a13 : Int) (a14 : Int) (a15 : Bool) (a16 : Int) (a17 : Int) (a18 : Int) (a19 : Int) (a20 : Int) (a21 : Int) (a22 : Int) (a23 : Int) (a24 : Int) (a25 : Bool) : Ob := .box (pxC a0 a1 a2 a3 a4 a5 a6 a7 a8 a9 a10 a11 a12 a13 a14 a15 a16 a17 a18 a19 a20 a21 a22 a23 a24 a25)
end Go.Proofs.YtalpfhpeaaocmaaGreat
end
section
namespace Go.Proofs.YtalpfhpeaaocmaaGreat.C12
open Sx Go.RowKit
theorem srt_sum {lim : Int} : ∀ {l : List Pt} {e : Int}, Srt e l → (∀ y ∈ l, pEnd y ≤ lim) → e ≤ lim → (sumD l : Int) ≤ lim - e ∧ ((∀ y ∈ l, y.d ≠ []) → (l.length : Int) ≤ lim - e)
 | [], e, _, _, h => by
  refine ⟨?_, fun _ => ?_⟩
  ·show (0 : Int) ≤ _; omega
  ·show (0 : Int) ≤ _; omega
 | x :: l, e, hs, hp, h => by
  have h1 := hp x (by simp)
  have h0 := hs.1
  have h2 := srt_sum hs.2 (fun y hy => hp y (List.mem_cons_of_mem _ hy)) h1
  have h3 : pEnd x = x.a + x.d.length := rfl
  refine ⟨?_, fun hn => ?_⟩
  ·rw [sumD_cons]; have := h2.1; push_cast; omega
  ·have := h2.2 fun y hy => hn y (List.mem_cons_of_mem _ hy)
   have h4 := hn x (by simp)
   have h5 : 0 < x.d.length := List.length_pos_iff.2 h4
   rw [List.length_cons]; push_cast; omega
theorem ok_held {s : Rq} (h : Ok s) : rHeld s ≤ 4096 ∧ s.p.length ≤ 4096 := by
 have hb := h.b
 by_cases hp : s.p = []
 ·rw [hp]
  refine ⟨?_, by simp⟩
  have e : rHeld s = s.r.length + sumD s.p := rfl
  rw [e, hp]
  show s.r.length + 0 ≤ _
  omega
 ·have hlim : s.b ≤ rLim s := by
   obtain ⟨x, l, e⟩ := List.exists_cons_of_ne_nil hp
   have h1 := h.p x (by rw [e]; simp)
   have h2 := h.srt
   rw [e] at h2
   have := h2.1
   have := pEnd_ge x
   omega
  have h1 := srt_sum h.srt (fun y hy => (h.p y hy).2) hlim
  have h2 := h1.2 fun y hy => (h.p y hy).1
  have h3 : rLim s ≤ s.b - s.r.length + 4096 := Int.min_le_left _ _
  have e : rHeld s = s.r.length + sumD s.p := rfl
  omega
theorem ok_rb2 {s : Rq} (h : Ok s) : Rb s := by
 have hb := h.b
 have hh := ok_held h
 have h3 : rLim s ≤ 1099511627776 := Int.min_le_right _ _
 refine ⟨by omega, by omega, by omega, fun y hy => ?_⟩
 have h1 := (h.p y hy).2
 have h4 : ∀ {l : List Pt} {e : Int}, Srt e l → y ∈ l → e < y.a := by
  intro l
  induction l with
  | nil => intro e _ hm; cases hm
  | cons x r ih =>
   intro e hs hm
   rcases List.mem_cons.1 hm with rfl | hm
   ·exact hs.1
   ·have := ih hs.2 hm
    have := hs.1
    have := pEnd_ge x
    omega
 have h5 := h4 h.srt hy
 have h6 : y.d.length ≤ sumD s.p := by
  have key : ∀ l : List Pt, y ∈ l → y.d.length ≤ sumD l := by
   intro l
   induction l with
   | nil => intro hm; cases hm
   | cons x r ih =>
    intro hm
    rw [sumD_cons]
    rcases List.mem_cons.1 hm with rfl | hm
    ·omega
    ·have := ih hm; omega
  exact key _ hy
 have e : rHeld s = s.r.length + sumD s.p := rfl
 unfold pEnd at h1
 refine ⟨by omega, by omega⟩
/-- What holds all along: what was read, and what is there, is of the text. -/
structure RI (w : List UInt8) (s : Rq) (out : List UInt8) : Prop where
 ok : Ok s
 ol : (out.length : Int) = rS s
 oe : out = w.take out.length
 dn : ∀ (k : Nat) (c : UInt8), den s k = some c → w[k]? = some c
section
variable {w w' : List UInt8} {s : Rq} {out : List UInt8}
theorem RI.bd (h : RI w s out) : 0 ≤ rS s ∧ rS s ≤ s.b ∧ s.b ≤ w.length := by
 have hb := h.ok.b
 have h0 : 0 ≤ rS s := by unfold rS; omega
 have h1 : rS s ≤ s.b := by unfold rS; omega
 refine ⟨h0, h1, ?_⟩
 by_cases h2 : s.b = rS s
 ·have h3 := h.ol
  have h4 := congrArg List.length h.oe
  rw [List.length_take] at h4
  omega
 ·obtain ⟨c, hc⟩ := den_r (s := s) (k := ((s.b - 1).toNat : Nat)) (by omega) (by omega)
  have := h.dn _ c hc
  have := (List.getElem?_eq_some_iff.1 this).1
  omega
theorem RI.grow (h : RI w s out) (x : List UInt8) : RI (w ++ x) s out := by
 have hl : out.length ≤ w.length := by
  have h4 := congrArg List.length h.oe
  rw [List.length_take] at h4
  omega
 refine ⟨h.ok, h.ol, ?_, fun k c hc => ?_⟩
 ·rw [List.take_append_of_le_length hl]; exact h.oe
 ·have := h.dn k c hc
  rw [List.getElem?_append_left (List.getElem?_eq_some_iff.1 this).1]; exact this
theorem RI.put (h : RI w s out) {a : Nat} (ha : (a : Int) ≤ 1099511627776) {d : List UInt8} (hd : d = (w.drop a).take d.length) : RI w (rPut s a d).1 out := by
 obtain ⟨i1, i2, i3, -⟩ := rPut_ok h.ok a (by omega) ha d
 refine ⟨i1, by rw [i2]; exact h.ol, h.oe, fun k c hc => ?_⟩
 rw [i3] at hc
 cases hq : den s k with
 | some e =>
  rw [hq] at hc
  exact h.dn k c (by rw [hq]; exact hc)
 | none =>
  rw [hq, Option.none_or] at hc
  split at hc
  ·unfold bA at hc
   split at hc
   ·next g =>
    have e1 : ((k : Int) - a).toNat = k - a := by omega
    have g : (a : Int) ≤ k := g
    rw [e1] at hc
    have hk : k - a < d.length := (List.getElem?_eq_some_iff.1 hc).1
    rw [hd, List.getElem?_take, if_pos hk, List.getElem?_drop] at hc
    rw [show k = a + (k - a) by omega]
    exact hc
   ·cases hc
  ·cases hc
theorem RI.r (h : RI w s out) (i : Nat) (hi : i < s.r.length) : s.r[i]? = w[out.length + i]? := by
 have hb := h.bd
 have ho := h.ol
 have hS : rS s = s.b - s.r.length := rfl
 obtain ⟨c, hc⟩ := den_r (s := s) (k := ((out.length + i : Nat) : Int)) (by omega) (by omega)
 rw [h.dn _ c hc]
 unfold den at hc
 have h3 : dP s.p ((out.length + i : Nat) : Int) = none := srt_dP h.ok.srt _ (by omega)
 rw [h3, Option.or_none] at hc
 unfold bA at hc
 rw [if_pos (by show rS s ≤ _; omega)] at hc
 rw [← hc]
 congr 1
 show i = (((out.length + i : Nat) : Int) - rS s).toNat
 omega
theorem RI.glue (h : RI w s out) (n : Nat) (hn : n ≤ s.r.length) : out ++ s.r.take n = w.take (out.length + n) := by
 refine List.ext_getElem? fun i => ?_
 rw [List.getElem?_take]
 by_cases h1 : i < out.length
 ·rw [List.getElem?_append_left h1, if_pos (by omega)]
  have h2 := h.oe
  have h3 : (w.take out.length)[i]? = w[i]? := by rw [List.getElem?_take, if_pos h1]
  rw [← h3, ← h2]
 ·rw [List.getElem?_append_right (by omega), List.getElem?_take]
  by_cases h2 : i < out.length + n
  ·rw [if_pos (by omega), if_pos h2, h.r _ (by omega)]
   congr 1; omega
  ·rw [if_neg (by omega), if_neg h2]
theorem RI.read (h : RI w s out) (m : Int) : RI w (rRead s m).1 (out ++ (rRead s m).2) := by
 unfold rRead
 by_cases hm : rChk s ≠ 0 ∨ m < 1
 ·rw [if_pos hm]
  simp only [List.append_nil]
  exact h
 ·rw [if_neg hm]
  have hb := h.ok.b
  have hB := h.bd
  have hS : rS s = s.b - s.r.length := rfl
  have ho := h.ol
  obtain ⟨m', hm'⟩ : ∃ m', m' = min m.toNat s.r.length := ⟨_, rfl⟩
  have ed : s.r.drop m.toNat = s.r.drop m' := by
   by_cases g : m.toNat ≤ s.r.length
   ·rw [show m' = m.toNat by omega]
   ·rw [List.drop_eq_nil_of_le (by omega), List.drop_eq_nil_of_le (by omega)]
  have et : s.r.take m.toNat = s.r.take m' := by
   by_cases g : m.toNat ≤ s.r.length
   ·rw [show m' = m.toNat by omega]
   ·rw [List.take_of_length_le (by omega), List.take_of_length_le (by omega)]
  rw [ed, et]
  simp only
  have eS : rS ⟨s.b, s.r.drop m', s.p⟩ = rS s + m' := by unfold rS; simp only [List.length_drop]; omega
  have hlen : (out ++ s.r.take m').length = out.length + m' := by rw [List.length_append, List.length_take]; omega
  have eL : rLim s ≤ rLim ⟨s.b, s.r.drop m', s.p⟩ := by
   unfold rLim; simp only [List.length_drop]; omega
  refine ⟨⟨by simp only [List.length_drop]; omega, h.ok.srt, fun y hy => ?_⟩, by rw [eS, hlen]; push_cast; omega, by rw [hlen]; exact h.glue m' (by omega), fun k c hc => ?_⟩
  ·have := h.ok.p y hy
   exact ⟨this.1, Int.le_trans this.2 eL⟩
  ·refine h.dn k c ?_
   rw [← hc]
   unfold den at hc ⊢
   rw [eS, bA_drop] at hc ⊢
   split at hc
   ·next g => rw [if_pos g]
   ·next g =>
    rw [if_neg g]
    rw [Option.none_or] at hc ⊢
    exfalso
    obtain ⟨y, hy, h1, h2⟩ := dP_in hc
    have := srt_dP h.ok.srt k (by omega)
    rw [this] at hc; cases hc
theorem RI.zero : RI [] ⟨0, [], []⟩ [] := by
 refine ⟨⟨by decide, trivial, fun y hy => by cases hy⟩, rfl, rfl, fun k c hc => ?_⟩
 have : den ⟨0, [], []⟩ (k : Int) = (bA ⟨0, []⟩ k).or none := rfl
 rw [this, Option.or_none] at hc
 unfold bA at hc
 simp at hc
end
end Go.Proofs.YtalpfhpeaaocmaaGreat.C12
end
section
namespace Go.Proofs.YtalpfhpeaaocmaaGreat
open Sx Go.RowKit
theorem plc_num {f near a : Int} (f0 : 0 ≤ f) (f1 : f < 4294967296) (n0 : 0 ≤ near) (n1 : near ≤ 1000000) (a0 : 0 ≤ a) (a1 : a ≤ 1000000) : pPlc f near (pNum f a) = a := by
 have w1 : IntKind.i64.wrap (a + 1) = a + 1 := by rw [IntKind.wrap_i64]; omega
 have e1 : IntKind.u32.wrap (C13.aAdd (pNum f a) (-1) - f) = a := by
  rw [IntKind.wrap_u32]; unfold pNum C13.aAdd; rw [w1]; omega
 unfold pPlc
 rw [e1]
 have e2 : C04.sNear near = near := by unfold C04.sNear; omega
 have e3 : C04.sDiff a (C04.sShort near) = a - near := by unfold C04.sDiff C04.sShort; omega
 unfold C04.sLong
 simp only [e2, e3]
 split
 ·omega
 ·split <;> omega
theorem num_bd (f a : Int) : 0 ≤ pNum f a ∧ pNum f a < 4294967296 := by unfold pNum C13.aAdd; omega
/-- Stage, numbers. -/
structure ShI (s : C13.Nd) (m o : Int) : Prop where
 g : 0 ≤ s.g ∧ s.g ≤ 4
 p : s.p = 2
 e : s.e = 9
 m : s.m = m
 h0 : s.g < 2 → s.h = 0
 h : s.g = 2 ∨ s.g = 3 → s.h = o
 hb : 0 ≤ s.h ∧ s.h < 4294967296
structure EndI (s : Pp) (m o : Int) (w : List UInt8) : Prop where
 sh : ShI s.sh m o
 mb : 0 ≤ m ∧ m < 4294967296
 sq : C11.KI s.sq w
 wl : w.length ≤ 100000
 rt : C08.rCheck s.rt = 0
 wn : C10.aOk s.wn
 li : 0 ≤ s.li ∧ s.li ≤ 200000
 no : 0 ≤ s.no ∧ s.no ≤ 1000
structure SegI (m : Int) (w : List UInt8) (x : C13.Sg) : Prop where
 f : x.f = 1 ∨ x.f = 3 ∨ x.f = 2 ∨ x.f = 18
 k : ∃ bs : List (Int × Int), x.k = bs.map bkD ∧ bs.length ≤ 3
 wd : 0 ≤ x.w ∧ x.w ≤ 65535
 syn : x.f = 1 ∨ x.f = 3 → x.q = m ∧ x.t = []
 dat : x.f = 2 ∨ x.f = 18 → ∃ a : Nat, x.q = pNum m a ∧ a + x.t.length ≤ w.length ∧ x.t = (w.drop a).take x.t.length
 qb : 0 ≤ x.q ∧ x.q < 4294967296
theorem SegI.grow {m : Int} {w : List UInt8} {x : C13.Sg} (h : SegI m w x) (y : List UInt8) : SegI m (w ++ y) x := by
 refine ⟨h.f, h.k, h.wd, h.syn, fun g => ?_, h.qb⟩
 obtain ⟨a, h1, h2, h3⟩ := h.dat g
 refine ⟨a, h1, by rw [List.length_append]; omega, ?_⟩
 rw [List.drop_append_of_le_length (by omega), List.take_append_of_le_length (by rw [List.length_drop]; omega)]
 exact h3
theorem has_1 {f : Int} (h : f = 1 ∨ f = 3 ∨ f = 2 ∨ f = 18) : C13.hasB f 1 = true ↔ f = 1 ∨ f = 3 := by
 rcases h with rfl | rfl | rfl | rfl <;> decide +kernel
theorem has_2 {f : Int} (h : f = 1 ∨ f = 3 ∨ f = 2 ∨ f = 18) : C13.hasB f 2 = true ↔ f ≠ 1 := by
 rcases h with rfl | rfl | rfl | rfl <;> decide +kernel
theorem has_8 {f : Int} (h : f = 1 ∨ f = 3 ∨ f = 2 ∨ f = 18) : C13.hasB f 8 = false := by
 rcases h with rfl | rfl | rfl | rfl <;> decide +kernel
theorem has_16 {f : Int} (h : f = 1 ∨ f = 3 ∨ f = 2 ∨ f = 18) : C13.hasB f 16 = true ↔ f = 18 := by
 rcases h with rfl | rfl | rfl | rfl <;> decide +kernel
section
variable {s : Pp} {m o : Int} {w w' r : List UInt8} {x : C13.Sg}
theorem ShI.chk {s : C13.Nd} (h : ShI s m o) : C13.nChk s = 0 := by
 have h1 := h.g
 have h2 := h.p
 have h3 := h.e
 unfold C13.nChk
 rw [if_neg (by omega), if_neg (by omega), if_neg (fun g => g.2 (h.h0 g.1))]
theorem ShI.at {s : C13.Nd} (h : ShI s m o) {g : Int} (hg : 0 ≤ g ∧ g ≤ 4) (h2 : g < 2 → s.h = 0) (h3 : g = 2 ∨ g = 3 → s.h = o) : ShI (C13.nAt s g) m o := by
 rw [C13.nAt_yes h.chk]
 exact ⟨hg, h.p, h.e, h.m, h2, h3, h.hb⟩
theorem ShI.met {s : C13.Nd} (h : ShI s m o) {g q : Int} (hg : 0 ≤ g ∧ g ≤ 4) (h2 : 2 ≤ g) (h3 : q = o) (h4 : 0 ≤ q ∧ q < 4294967296) : ShI (C13.nMet s g q) m o :=
 ⟨hg, h.p, h.e, h.m, fun k => by have k : g < 2 := k; omega, fun _ => h3, h4⟩
theorem ShI.on {s : C13.Nd} (h : ShI s m o) (hx : SegI o w x) : ShI (C13.nOn s x) m o := by
 have h8 := has_8 hx.f
 have h1 := has_1 hx.f
 have hq := fun g : C13.hasB x.f 1 = true => (hx.syn (h1.1 g)).1
 unfold C13.nOn
 split
 ·exact h
 ·split
  ·exact h
  ·next a1 =>
   rw [h8]
   simp only [Bool.false_eq_true, if_false]
   split
   ·split
    ·next g => exact h.met (by omega) (by omega) (hq g.1) hx.qb
    ·split
     ·next g => exact h.met (by omega) (by omega) (hq g.1) hx.qb
     ·exact h
   ·split
    ·next a2 a3 =>
     split
     ·refine h.met (by omega) (by omega) (hq ?_) hx.qb
      cases g : C13.hasB x.f 1
      ·exact absurd ⟨a3, g⟩ a1
      ·rfl
     ·exact h
    ·split
     ·next a4 =>
      split
      ·exact h.at (by omega) (fun g => by omega) (fun _ => h.h (.inl a4))
      ·exact h
     ·exact h
theorem endI_write (h : EndI s m o w) {t : List UInt8} (ht : w.length + t.length ≤ 100000) : EndI (pWrite s t).1 m o (w ++ t.take (max 0 (min (pWrite s t).2 t.length)).toNat) ∧ (pWrite s t).1.rq = s.rq := by
 unfold pWrite
 split
 ·have e : (max 0 (min (0 : Int) (t.length : Int))).toNat = 0 := by omega
  rw [e, List.take_zero, List.append_nil]
  exact ⟨h, rfl⟩
 ·obtain ⟨k, h1, h2, -, h3, -, -⟩ := C11.ki_write h.sq (x := t) (by omega)
  simp only [h1]
  have e : (max 0 (min (k : Int) (t.length : Int))).toNat = k := by omega
  rw [e]
  exact ⟨⟨h.sh, h.mb, h3, by rw [List.length_append, List.length_take]; omega, h.rt, h.wn, h.li, h.no⟩, trivial⟩
theorem endI_read (h : EndI s m o w) (hr : C12.RI w' s.rq r) (n : Int) : EndI (pRead s n).1 m o w ∧ C12.RI w' (pRead s n).1.rq (r ++ (pRead s n).2) :=
 ⟨⟨h.sh, h.mb, h.sq, h.wl, h.rt, h.wn, h.li, h.no⟩, hr.read n⟩
theorem aOk_half {a : C10.Aim} (h : C10.aOk a) : C10.aOk (C10.aHalf a) := by
 unfold C10.aOk C10.aHalf at *; dsimp only; omega
theorem aOk_lost {a : C10.Aim} (h : C10.aOk a) : C10.aOk (C10.aLost a) := by
 unfold C10.aLost; split
 ·exact aOk_half h
 ·exact h
theorem aOk_expired {a : C10.Aim} (h : C10.aOk a) : C10.aOk (C10.aExpired a) := by
 unfold C10.aExpired; split
 ·unfold C10.aOk at *; dsimp only; omega
 ·exact h
theorem aOk_acked {a : C10.Aim} (h : C10.aOk a) (n : Int) : C10.aOk (C10.aAcked a n) := by
 unfold C10.aAcked C10.aGrow; unfold C10.aOk at h
 split
 ·split
  ·unfold C10.aOk; dsimp only; omega
  ·split <;> (unfold C10.aOk; dsimp only; omega)
 ·exact h
theorem endI_kill (h : EndI s m o w) : EndI (pKill s) m o w :=
 ⟨h.sh.at (by omega) (fun g => by omega) (fun g => by omega), h.mb, h.sq, h.wl, h.rt, h.wn, h.li, h.no⟩
theorem endI_tick (h : EndI s m o w) {now : Int} (hn : now ≤ 1000) : EndI (pTick s now) m o w ∧ (pTick s now).rq = s.rq := by
 unfold pTick
 have hno := h.no
 split
 ·exact ⟨h, rfl⟩
 ·next h1 =>
  have h2 : EndI { s with no := now } m o w := ⟨h.sh, h.mb, h.sq, h.wl, h.rt, h.wn, h.li, by show 0 ≤ now ∧ now ≤ 1000; omega⟩
  split
  ·exact ⟨h2, rfl⟩
  ·split
   ·exact ⟨endI_kill h2, rfl⟩
   ·split
    ·exact ⟨⟨h.sh, h.mb, C11.ki_expire h.sq, h.wl, C08.expire_ok h.rt, aOk_expired h.wn, h.li, by show 0 ≤ now ∧ now ≤ 1000; omega⟩, rfl⟩
    ·exact ⟨h2, rfl⟩
theorem free_eq {s : Pp} (h : C12.Ok s.rq) : pFree s = C12.rLim s.rq - s.rq.b ∧ -4096 ≤ pFree s ∧ pFree s ≤ 4096 := by
 have hb := h.b
 have e : pFree s = C12.rLim s.rq - s.rq.b := by
  unfold pFree; rw [IntKind.wrap_i64]; unfold C12.rLim; omega
 refine ⟨e, ?_⟩
 rw [e]; unfold C12.rLim; omega
theorem free_bd {s : Pp} (h : C12.Ok s.rq) : 0 ≤ min (pFree s) 65535 ∧ min (pFree s) 65535 ≤ 65535 := by
 have hb := h.b
 obtain ⟨e, -, -⟩ := free_eq h
 rw [e]
 unfold C12.rLim
 omega
theorem rBlk_len' (q : C12.Rq) : (C12.rBlk q 3).length ≤ 3 := by
 unfold C12.rBlk
 split
 ·rw [List.length_take]; omega
 ·simp
theorem segI_bear (h : EndI s m o w) (hr : C12.Ok s.rq) {a : Nat} {t : List UInt8} (ha : a + t.length ≤ w.length) (ht : t = (w.drop a).take t.length) {f : Int} (hf : f = 2 ∨ f = 18) : SegI m w { pBear s a t with f := f } := by
 refine ⟨by show f = 1 ∨ f = 3 ∨ f = 2 ∨ f = 18; omega, ⟨pBks s, rfl, ?_⟩, free_bd (s := s) hr, fun g => ?_, fun _ => ⟨a, ?_, ha, ht⟩, num_bd _ _⟩
 ·unfold pBks; rw [List.length_map]; exact rBlk_len' _
 ·have g : f = 1 ∨ f = 3 := g
  omega
 ·show pNum s.sh.m a = pNum m a
  rw [h.sh.m]
theorem endI_out (h : EndI s m o w) (hr : C12.Ok s.rq) : EndI (pOut s).1 m o w ∧ (pOut s).1.rq = s.rq ∧ ((pOut s).2.2 = true → SegI m w (pOut s).2.1) := by
 have hno := h.no
 unfold pOut
 split
 ·unfold pSpeak
  obtain ⟨k1, k2, k3, k4⟩ := C11.ki_pick (win := s.wn.w) (limit := s.li) h.sq (now := s.no) (by omega)
  split
  ·refine ⟨⟨h.sh, h.mb, k1, h.wl, h.rt, h.wn, h.li, h.no⟩, rfl, fun _ => ?_⟩
   have p1 := k4.f
   have p2 := k4.ft
   have p3 := k4.ta
   have p4 := k4.eq
   have hl : (pPick s).2.2.length = (pPick s).2.1.t.toNat - (pPick s).2.1.f.toNat := by
    have := congrArg List.length p4
    rw [List.length_take, List.length_drop] at this
    unfold pPick
    omega
   have e : ((pPick s).2.1.f.toNat : Int) = (pPick s).2.1.f := by unfold pPick; omega
   have := segI_bear (a := (pPick s).2.1.f.toNat) (t := (pPick s).2.2) (f := 2) h hr (by unfold pPick at *; omega) (by rw [hl]; exact p4) (.inl rfl)
   rw [e] at this
   exact this
  ·split
   ·exact ⟨h, rfl, fun g => by cases g⟩
   ·have h1 := h.sq.b0
    have h2 := h.sq.bn
    have h3 := h.sq.nd
    have e : ((s.sq.n.toNat : Nat) : Int) = s.sq.n := by omega
    have seg := fun f hf => segI_bear (a := s.sq.n.toNat) (t := []) (f := f) h hr (by simp; omega) (by simp) hf
    rw [e] at seg
    split
    ·exact ⟨⟨h.sh, h.mb, h.sq, h.wl, h.rt, h.wn, h.li, h.no⟩, rfl, fun _ => seg 2 (.inl rfl)⟩
    ·exact ⟨⟨h.sh, h.mb, h.sq, h.wl, h.rt, h.wn, h.li, h.no⟩, rfl, fun _ => seg 18 (.inr rfl)⟩
 ·unfold pGreet
  split
  ·exact ⟨h, rfl, fun g => by cases g⟩
  ·next hs =>
   refine ⟨⟨h.sh, h.mb, h.sq, h.wl, C08.expire_ok h.rt, h.wn, h.li, h.no⟩, rfl, fun _ => ?_⟩
   have hc := h.sh.chk
   have hm := h.sh.m
   have hmb := h.mb
   have hsy : C13.nSays s.sh = true := by
    cases g : C13.nSays s.sh
    ·exact absurd (.inl g) hs
    ·rfl
   have hsy := (of_decide_eq_true hsy).2
   show SegI m w (C13.nOut s.sh)
   unfold C13.nOut
   rw [hc]
   rcases hsy with g | g
   ·rw [if_pos ⟨rfl, g⟩]
    exact ⟨.inl rfl, ⟨[], rfl, by simp⟩, (by show 0 ≤ (65535 : Int) ∧ (65535 : Int) ≤ 65535; decide), fun _ => ⟨hm, rfl⟩, fun k => (by have k : (1 : Int) = 2 ∨ (1 : Int) = 18 := k; omega), by show 0 ≤ s.sh.m ∧ s.sh.m < _; omega⟩
   ·rw [if_neg (by omega), if_pos ⟨rfl, g⟩]
    exact ⟨.inr (.inl rfl), ⟨[], rfl, by simp⟩, (by show 0 ≤ (65535 : Int) ∧ (65535 : Int) ≤ 65535; decide), fun _ => ⟨hm, rfl⟩, fun k => (by have k : (3 : Int) = 2 ∨ (3 : Int) = 18 := k; omega), by show 0 ≤ s.sh.m ∧ s.sh.m < _; omega⟩
theorem endI_acked (h : EndI s m o w) (hx : SegI o w' x) : EndI (pAcked s x) m o w := by
 have k1 := (C11.ki_ack h.sq (pCum s x) (pBlocks s (x.k.map bkOf) (pCum s x)) s.no).1
 have h1 := h.sq.b0
 have h2 := h.sq.nd
 have h3 := h.wl
 have h4 := h.li
 have h5 := hx.wd
 refine ⟨h.sh, h.mb, k1, h.wl, ?_, ?_, ?_, h.no⟩
 ·show C08.rCheck (if (pAck s x).2.s ≥ 0 then C08.rSample s.rt (pAck s x).2.s else s.rt) = 0
  split
  ·exact C08.sample_ok h.rt
  ·exact h.rt
 ·have : C10.aOk (if (pAck s x).2.a > 0 then C10.aAcked s.wn (pAck s x).2.a else s.wn) := by
   split
   ·exact aOk_acked h.wn _
   ·exact h.wn
  show C10.aOk ((fun w => if (pAck s x).2.l = true then C10.aLost w else w) (if (pAck s x).2.a > 0 then C10.aAcked s.wn (pAck s x).2.a else s.wn))
  dsimp only
  split
  ·exact aOk_lost this
  ·exact this
 ·show 0 ≤ (if s.sq.b ≤ pCum s x ∧ pCum s x ≤ s.sq.n then max s.li (IntKind.i64.wrap (pCum s x + x.w)) else s.li) ∧ (if s.sq.b ≤ pCum s x ∧ pCum s x ≤ s.sq.n then max s.li (IntKind.i64.wrap (pCum s x + x.w)) else s.li) ≤ 200000
  split
  ·next g =>
   have e : IntKind.i64.wrap (pCum s x + x.w) = pCum s x + x.w := by rw [IntKind.wrap_i64]; omega
   rw [e]; omega
  ·exact h4
theorem endI_took (h : EndI s m o w) (ob : 0 ≤ o ∧ o < 4294967296) (hu : s.sh.g = 3) (hx : SegI o w' x) (hr : C12.RI w' s.rq r) (hw : w'.length ≤ 100000) : EndI (pTook s x) m o w ∧ C12.RI w' (pTook s x).rq r := by
 have key : ∀ s1 : Pp, EndI s1 m o w → s1.sh = s.sh → s1.rq = s.rq → ∀ d : Bool, EndI (TK s1 (if x.t ≠ [] then (C12.rPut s1.rq (pPlc s1.sh.h s1.rq.b x.q) x.t).1 else s1.rq) d) m o w ∧ C12.RI w' (if x.t ≠ [] then (C12.rPut s1.rq (pPlc s1.sh.h s1.rq.b x.q) x.t).1 else s1.rq) r := fun s1 h1 hs hq d => by
  refine ⟨⟨h1.sh, h1.mb, h1.sq, h1.wl, h1.rt, h1.wn, h1.li, h1.no⟩, ?_⟩
  split
  ·next ht =>
   have hf : x.f = 2 ∨ x.f = 18 := by
    rcases hx.f with g | g | g | g
    ·exact absurd (hx.syn (.inl g)).2 ht
    ·exact absurd (hx.syn (.inr g)).2 ht
    ·exact .inl g
    ·exact .inr g
   obtain ⟨a, g1, g2, g3⟩ := hx.dat hf
   have hb := hr.bd
   rw [hs, hq, h.sh.h (.inr hu), g1, plc_num ob.1 ob.2 (by omega) (by omega) (by omega) (by omega)]
   exact hr.put (by omega) g3
  ·rw [hq]; exact hr
 rw [pTook_eq]
 have hA : EndI (pA s x) m o w ∧ (pA s x).sh = s.sh ∧ (pA s x).rq = s.rq := by
  unfold pA
  split
  ·exact ⟨endI_acked h hx, rfl, rfl⟩
  ·exact ⟨h, rfl, rfl⟩
 exact key _ hA.1 hA.2.1 hA.2.2 _
theorem endI_on (h : EndI s m o w) (ob : 0 ≤ o ∧ o < 4294967296) (hx : SegI o w' x) (hr : C12.RI w' s.rq r) (hw : w'.length ≤ 100000) : EndI (pOn s x) m o w ∧ C12.RI w' (pOn s x).rq r := by
 have h1 : EndI { s with he := s.no, sh := C13.nOn s.sh x } m o w := ⟨h.sh.on hx, h.mb, h.sq, h.wl, h.rt, h.wn, h.li, h.no⟩
 unfold pOn
 split
 ·exact ⟨h, hr⟩
 ·split
  ·next hu => exact endI_took h1 ob (beq_iff_eq.1 hu) hx hr hw
  ·exact ⟨h1, hr⟩
end
end Go.Proofs.YtalpfhpeaaocmaaGreat
end
section
namespace Go.Proofs.YtalpfhpeaaocmaaGreat.C11
open Sx Go.RowKit C06
def Cov (s : Sq) : Prop := ∀ m, s.b ≤ m → m < s.n → has s.cm m = true ∨ ∃ c ∈ s.fl, c.f ≤ m ∧ m < c.t
theorem cov0 : Cov v0 := fun m h1 h2 => by have h1 : (0:Int) ≤ m := h1; have h2 : m < 0 := h2; omega
theorem cov_write {s : Sq} (h : Cov s) (x : List UInt8) : Cov (rWrite s x).1 := by
 unfold rWrite
 split
 ·exact h
 ·split <;> exact h
theorem cov_map {s : Sq} (h : Cov s) (g : Ck → Ck) (hg : ∀ c, (g c).f = c.f ∧ (g c).t = c.t) : Cov { s with fl := s.fl.map g } := fun m h1 h2 => by
 rcases h m h1 h2 with e | ⟨c, hc, e⟩
 ·exact .inl e
 ·exact .inr ⟨g c, List.mem_map_of_mem hc, by rw [(hg c).1, (hg c).2]; exact e⟩
theorem cov_set {s : Sq} (h : Cov s) {i : Nat} {c c' : Ck} (hi : s.fl[i]? = some c) (e1 : c'.f = c.f) (e2 : c'.t = c.t) : Cov { s with fl := s.fl.set i c' } := fun m h1 h2 => by
 have hlt := get_lt hi
 rcases h m h1 h2 with e | ⟨x, hx, e⟩
 ·exact .inl e
 ·right
  obtain ⟨k, hk, hkx⟩ := List.mem_iff_getElem.1 hx
  by_cases q : i = k
  ·subst q
   have : x = c := by rw [List.getElem?_eq_getElem hlt] at hi; rw [hkx] at hi; exact Option.some.inj hi
   subst this
   refine ⟨c', ?_, by rw [e1, e2]; exact e⟩
   exact List.mem_iff_getElem.2 ⟨i, by show i < (s.fl.set i c').length; rw [List.length_set]; exact hlt, by simp⟩
  ·refine ⟨x, ?_, e⟩
   exact List.mem_iff_getElem.2 ⟨k, by show k < (s.fl.set i c').length; rw [List.length_set]; exact hk, by simp [q, hkx]⟩
theorem cov_pick {s : Sq} (h : Cov s) (now win lim : Int) : Cov (rPick s now win lim).1 := by
 unfold rPick
 split
 ·exact h
 ·split
  ·split
   ·next c hc =>
    split
    ·exact cov_set h hc rfl rfl
    ·exact h
   ·exact h
  ·split
   ·exact h
   ·intro m h1 h2
    have h2 : m < s.n + pkN s win lim := h2
    by_cases q : m < s.n
    ·rcases h m h1 q with e | ⟨c, hc, e⟩
     ·exact .inl e
     ·exact .inr ⟨c, List.mem_append_left _ hc, e⟩
    ·exact .inr ⟨pkC s now win lim, List.mem_append_right _ (by simp), by show s.n ≤ m; omega, h2⟩
theorem cov_lose {s : Sq} (h : Cov s) : Cov (rLose s).1 := by
 unfold rLose
 cases s.cm.getLast? with
 | none => exact h
 | some z => exact cov_map h (loseC z.2) fun c => by unfold loseC; split <;> exact ⟨rfl, rfl⟩
theorem may_c {s : Sq} {all : List UInt8} (h : KI s all) {c : Ck} (hc : c ∈ s.fl) : mayB (ckI c) = true := by
 have h1 := h.b0
 have h3 := h.nd
 have h4 := h.al
 have hF := row_mem h.fl c hc
 have f1 := hF.f
 have f2 := hF.ft
 have f3 := hF.n
 exact mayB_iff.2 ⟨⟨by show 0 ≤ c.f; omega, by show c.f ≤ _; omega⟩, by show 0 ≤ c.t; omega, by show c.t ≤ _; omega⟩
/-- What an acknowledgement that may be leaves. -/
structure Ak (s y : Sq) (cm : List Iv) (B : Int) (now : Int) : Prop where
 y : y = (rLose ⟨B, s.d.drop (B - s.b).toNat, s.n, s.fl.flatMap (fun c => lft c cm), rCut cm (0, B)⟩).1
 bb : s.b ≤ B ∧ B ≤ s.n
 f : has cm B = false
 lo : ∀ m, s.b ≤ m → m < B → has cm m = true
 m : mayB (0, B) = true
theorem ak_of {s : Sq} {all : List UInt8} (h : KI s all) {u : Int} {l : List Iv} (hq : mayQ s u l = true) (now : Int) :
  Ak s (rAck s u l now).1 (ackAll s u l) (rFirst (ackAll s u l) u) now ∧ AllOk s u l (ackAll s u l) := by
 have h3 := h.nd
 have h4 := h.al
 have hn := h.sq.n.2
 have ao := all_ok hn hq
 obtain ⟨f1, f2, f3, f4⟩ := first_in ao
 have hbu := ao.bu
 have h1 := ao.b0
 refine ⟨⟨?_, ⟨by omega, f2⟩, f3, f4, mayB_iff.2 ⟨⟨Int.le_refl _, by show (0:Int) ≤ _; omega⟩, by show 0 ≤ rFirst _ _; omega, by show rFirst _ _ ≤ _; omega⟩⟩, ao⟩
 unfold rAck
 rw [hq, if_neg (by simp)]
 unfold acO ackF
 rw [ackF_flat, List.nil_append]
theorem cov_ack {s : Sq} {all : List UInt8} (hk : KI s all) (h : Cov s) (u : Int) (l : List Iv) (now : Int) : Cov (rAck s u l now).1 := by
 cases hq : mayQ s u l
 ·unfold rAck
  rw [hq, if_pos rfl]
  exact h
 ·obtain ⟨a, ao⟩ := ak_of hk hq now
  rw [a.y]
  refine cov_lose ?_
  obtain ⟨c1, c2⟩ := cut_has ao.ok a.m
  intro m h1 h2
  have h1 : rFirst (ackAll s u l) u ≤ m := h1
  have h2 : m < s.n := h2
  have hB := a.bb
  cases hm : has (ackAll s u l) m
  ·have h5 := ao.has m
   rw [hm] at h5
   rcases h m (by omega) h2 with e | ⟨c, hc, e1, e2⟩
   ·rw [e] at h5; cases h5
   ·right
    have g2 := (gaps_ok ao.ok (may_c hk hc)).2 m
    rw [hm, show inV (ckI c) m = true from decide_eq_true ⟨e1, e2⟩] at g2
    obtain ⟨x, hx, x1, x2⟩ := has_iff.1 (show has (rGaps (ackAll s u l) (ckI c)) m = true from g2)
    refine ⟨part c x, List.mem_flatMap.2 ⟨c, hc, ?_⟩, x1, x2⟩
    unfold lft
    exact List.mem_map_of_mem hx
  ·left
   show has (rCut _ _) m = true
   rw [c2, hm, show inV (0, rFirst (ackAll s u l) u) m = false from decide_eq_false (by show ¬(0 ≤ m ∧ m < rFirst _ _); omega)]
   rfl
theorem row_drop {s : Sq} : ∀ {l : List Ck} {a : Int} {i : Nat} {c : Ck}, Row s l a → l[i]? = some c → ∀ k x, i ≤ k → l[k]? = some x → c.f ≤ x.f
 | [], _, _, _, _, h => by simp at h
 | y :: l, a, i, c, hr, h => by
  cases hr with
  | cons hf ht =>
  intro k x hk hx
  cases i with
  | zero =>
   simp only [List.getElem?_cons_zero, Option.some.injEq] at h
   subst h
   cases k with
   | zero =>
    simp only [List.getElem?_cons_zero, Option.some.injEq] at hx
    subst hx; exact Int.le_refl _
   | succ k =>
    simp only [List.getElem?_cons_succ] at hx
    have := (row_mem ht x (get_mem hx)).f
    have := hf.ft
    omega
  | succ i =>
   simp only [List.getElem?_cons_succ] at h
   cases k with
   | zero => omega
   | succ k =>
    simp only [List.getElem?_cons_succ] at hx
    exact row_drop ht h k x (by omega) hx
/-- What a pick leaves. -/
structure PkV (s s' : Sq) (c : Ck) (t : List UInt8) (now lim : Int) : Prop where
 b : s'.b = s.b
 cm : s'.cm = s.cm
 d : s'.d = s.d
 n : s.n ≤ s'.n
 nl : s'.n ≤ max s.n lim
 ft : c.f < c.t
 cn : c.t ≤ s'.n
 len : (t.length : Int) = c.t - c.f
 cb : s.b ≤ c.f
 z : c.t - c.f ≤ 48
 fl : ∀ x ∈ s'.fl, x.l = false → (x ∈ s.fl) ∨ (x.f = c.f ∧ x.t = c.t ∧ x.s = now)
 fs : ∀ x ∈ s'.fl, (∃ y ∈ s.fl, x.s = y.s) ∨ x.s = now
 lo : Cov s → ∀ m, s.b ≤ m → m < c.f → has s.cm m = true ∨ ∃ x ∈ s.fl, x.l = false ∧ x.f ≤ m ∧ m < x.t
theorem pick_v {s : Sq} {all : List UInt8} (h : KI s all) (now win lim : Int) : ((rPick s now win lim).1 = s ∧ (rPick s now win lim).2.2 = []) ∨ PkV s (rPick s now win lim).1 (rPick s now win lim).2.1 (rPick s now win lim).2.2 now lim := by
 have h1 := h.b0
 have h2 := h.bl
 have h3 := h.nd
 have h4 := h.al
 have h5 := h.bn
 have h6 := h.dlen
 unfold rPick
 split
 ·exact .inl ⟨rfl, rfl⟩
 ·split
  ·next i hi =>
   split
   ·next c hc =>
    split
    ·right
     have hF := row_mem h.fl c (get_mem hc)
     have f1 := hF.f
     have f2 := hF.ft
     have f3 := hF.n
     refine ⟨rfl, rfl, rfl, Int.le_refl _, by show s.n ≤ _; omega, f2, f3, ?_, f1, hF.z, ?_, ?_, ?_⟩
     ·exact bytes_len (c := c) h f1 (by omega) (by omega)
     ·intro x hx hl
      have hx : x ∈ s.fl.set i (again c now) := hx
      rcases List.mem_or_eq_of_mem_set hx with g | g
      ·exact .inl g
      ·exact .inr (by rw [g]; exact ⟨rfl, rfl, rfl⟩)
     ·intro x hx
      have hx : x ∈ s.fl.set i (again c now) := hx
      rcases List.mem_or_eq_of_mem_set hx with g | g
      ·exact .inl ⟨x, g, rfl⟩
      ·exact .inr (by rw [g]; rfl)
     ·intro hv m m1 m2
      have m2 : m < c.f := m2
      rcases hv m m1 (by omega) with e | ⟨x, hx, e1, e2⟩
      ·exact .inl e
      ·right
       obtain ⟨k, hk, rfl⟩ := List.mem_iff_getElem.1 hx
       refine ⟨_, hx, ?_, e1, e2⟩
       rcases Nat.lt_or_ge k i with g | g
       ·have := (List.findIdx?_eq_some_iff_getElem.1 hi).2.2 k g
        simpa [lostB] using this
       ·have := row_drop h.fl hc k _ g (get_of hk)
        omega
    ·exact .inl ⟨rfl, rfl⟩
   ·exact .inl ⟨rfl, rfl⟩
  ·next hi =>
   split
   ·exact .inl ⟨rfl, rfl⟩
   ·next hq =>
    right
    have hfb := flight_in h
    have hp : 0 < pkN s win lim ∧ pkN s win lim ≤ s.b + (s.d.length : Int) - s.n ∧ pkN s win lim ≤ 48 ∧ pkN s win lim ≤ lim - s.n := by unfold pkN; omega
    refine ⟨rfl, rfl, rfl, by show s.n ≤ s.n + _; omega, by show s.n + _ ≤ _; omega, by show s.n < s.n + _; omega, Int.le_refl _, ?_, h5, by show s.n + _ - s.n ≤ 48; omega, ?_, ?_, ?_⟩
    ·exact bytes_len (c := pkC s now win lim) h (by show s.b ≤ s.n; omega) (by show s.n ≤ s.n + _; omega) (by show s.n + _ ≤ _; omega)
    ·intro x hx hl
     rcases List.mem_append.1 (show x ∈ s.fl ++ [pkC s now win lim] from hx) with g | g
     ·exact .inl g
     ·exact .inr (by rw [List.mem_singleton.1 g]; exact ⟨rfl, rfl, rfl⟩)
    ·intro x hx
     rcases List.mem_append.1 (show x ∈ s.fl ++ [pkC s now win lim] from hx) with g | g
     ·exact .inl ⟨x, g, rfl⟩
     ·exact .inr (by rw [List.mem_singleton.1 g]; rfl)
    ·intro hv m m1 m2
     have m2 : m < s.n := m2
     rcases hv m m1 m2 with e | ⟨x, hx, e1, e2⟩
     ·exact .inl e
     ·refine .inr ⟨x, hx, ?_, e1, e2⟩
      have := List.findIdx?_eq_none_iff.1 hi x hx
      simpa [lostB] using this
theorem flight_lost : ∀ (l : List Ck) (m : Int), (∀ c ∈ l, c.l = true) → l.foldl flS m = m
 | [], m, _ => rfl
 | c :: l, m, h => by
  rw [List.foldl_cons]
  have : flS m c = m := by unfold flS; rw [if_pos (h c (by simp))]
  rw [this]
  exact flight_lost l m fun x hx => h x (List.mem_cons_of_mem _ hx)
/-- With nothing under way, something is picked. -/
theorem pick_go {s : Sq} {all : List UInt8} (h : KI s all) (hv : Cov s) {now win lim : Int} (hn : 0 ≤ now ∧ now ≤ 1000000) (hl : ∀ c ∈ s.fl, c.l = true) (hb : s.b < all.length) (hw : 1 ≤ win) (hm : s.fl = [] → s.b < lim) : (rPick s now win lim).2.2 ≠ [] := by
 have h1 := h.b0
 have h2 := h.bl
 have h3 := h.nd
 have h4 := h.al
 have h5 := h.bn
 have h6 := h.dlen
 have ht : tickB now = true := by unfold tickB; simp; omega
 have hf : rFlight s = 0 := flight_lost _ 0 hl
 intro e
 have hz : (((rPick s now win lim).2.2.length : Nat) : Int) = 0 := by rw [e]; rfl
 unfold rPick at hz
 rw [if_neg (by rw [h.chk, ht]; simp)] at hz
 split at hz
 ·next i hi =>
  have hil := (List.findIdx?_eq_some_iff_getElem.1 hi).1
  rw [List.getElem?_eq_getElem hil] at hz
  dsimp only at hz
  rw [if_pos (.inl hf)] at hz
  have hF := row_mem h.fl s.fl[i] (List.getElem_mem hil)
  have f1 := hF.f
  have f2 := hF.ft
  have f3 := hF.n
  have := bytes_len (c := s.fl[i]) h f1 (by omega) (by omega)
  have hz : ((bytesOf s s.fl[i]).length : Int) = 0 := hz
  omega
 ·next hi =>
  have hnil : s.fl = [] := by
   cases hq : s.fl with
   | nil => rfl
   | cons x l =>
    have := List.findIdx?_eq_none_iff.1 hi x (by rw [hq]; simp)
    rw [show lostB x = x.l from rfl, hl x (by rw [hq]; simp)] at this
    cases this
  have hbn : s.b = s.n := by
   rcases Int.lt_or_le s.b s.n with g | g
   ·rcases hv s.b (Int.le_refl _) g with q | ⟨c, hc, -⟩
    ·obtain ⟨x, hx, x1, x2⟩ := has_iff.1 q
     have := (h.cm x hx).1
     omega
    ·rw [hnil] at hc; cases hc
   ·omega
  have hm := hm hnil
  rw [if_neg (by omega)] at hz
  have hp : 0 < pkN s win lim ∧ pkN s win lim ≤ s.b + (s.d.length : Int) - s.n := by unfold pkN; omega
  have := bytes_len (c := pkC s now win lim) h (by show s.b ≤ s.n; omega) (by show s.n ≤ s.n + _; omega) (by show s.n + _ ≤ _; omega)
  have e2 : (pkC s now win lim).t - (pkC s now win lim).f = pkN s win lim := by show s.n + _ - s.n = _; omega
  have hz : ((bytesOf s (pkC s now win lim)).length : Int) = 0 := hz
  omega
theorem old_le : ∀ (l : List Ck) (p : Int × Bool), (p.2 = true → (l.foldl oldS p).2 = true ∧ (l.foldl oldS p).1 ≤ p.1) ∧ ∀ c ∈ l, c.l = false → (l.foldl oldS p).2 = true ∧ (l.foldl oldS p).1 ≤ c.s
 | [], p => ⟨fun h => ⟨h, Int.le_refl _⟩, fun c hc => by cases hc⟩
 | x :: l, p => by
  rw [List.foldl_cons]
  obtain ⟨i1, i2⟩ := old_le l (oldS p x)
  have key : (p.2 = true → (oldS p x).2 = true ∧ (oldS p x).1 ≤ p.1) ∧ (x.l = false → (oldS p x).2 = true ∧ (oldS p x).1 ≤ x.s) := by
   unfold oldS
   split
   ·next g => exact ⟨fun h => ⟨rfl, by rcases g.2 with q | q; rw [h] at q; cases q; show x.s ≤ _; omega⟩, fun _ => ⟨rfl, Int.le_refl _⟩⟩
   ·next g =>
    refine ⟨fun h => ⟨h, Int.le_refl _⟩, fun h => ?_⟩
    cases q : p.2
    ·exact absurd ⟨h, .inl q⟩ g
    ·exact ⟨rfl, by rcases Int.lt_or_le x.s p.1 with r | r; exact absurd ⟨h, .inr r⟩ g; exact r⟩
  refine ⟨fun h => ?_, fun c hc hl => ?_⟩
  ·have := i1 (key.1 h).1
   exact ⟨this.1, Int.le_trans this.2 (key.1 h).2⟩
  ·rcases List.mem_cons.1 hc with rfl | hc
   ·have := i1 (key.2 hl).1
    exact ⟨this.1, Int.le_trans this.2 (key.2 hl).2⟩
   ·exact i2 c hc hl
theorem oldest_le {s : Sq} {c : Ck} (hc : c ∈ s.fl) (hl : c.l = false) : (rOldest s).2 = true ∧ (rOldest s).1 ≤ c.s := (old_le s.fl (0, false)).2 c hc hl
theorem old_mem : ∀ (l : List Ck) (p : Int × Bool), (∃ c ∈ l, (l.foldl oldS p).1 = c.s) ∨ l.foldl oldS p = p
 | [], p => .inr rfl
 | x :: l, p => by
  rw [List.foldl_cons]
  rcases old_mem l (oldS p x) with ⟨c, hc, e⟩ | e
  ·exact .inl ⟨c, List.mem_cons_of_mem _ hc, e⟩
  ·rw [e]
   unfold oldS
   split
   ·exact .inl ⟨x, by simp, rfl⟩
   ·exact .inr rfl
theorem oldest_0 {s : Sq} {all : List UInt8} (h : KI s all) : 0 ≤ (rOldest s).1 := by
 rcases old_mem s.fl (0, false) with ⟨c, hc, e⟩ | e
 ·show 0 ≤ (s.fl.foldl oldS (0, false)).1
  rw [e]
  exact (row_mem h.fl c hc).tm.1.1
 ·show 0 ≤ (s.fl.foldl oldS (0, false)).1
  rw [e]
  decide
theorem expire_all (s : Sq) : ∀ c ∈ (rExpire s).1.fl, c.l = true := fun c hc => by
 obtain ⟨c', -, rfl⟩ := List.mem_map.1 hc
 rfl
theorem lose_fl {s : Sq} : ∀ c ∈ (rLose s).1.fl, ∃ c' ∈ s.fl, c.f = c'.f ∧ c.t = c'.t ∧ c.s = c'.s ∧ (c.l = false → c'.l = false) := by
 unfold rLose
 cases s.cm.getLast? with
 | none => exact fun c hc => ⟨c, hc, rfl, rfl, rfl, id⟩
 | some z =>
  intro c hc
  obtain ⟨c', h', rfl⟩ := List.mem_map.1 hc
  refine ⟨c', h', ?_⟩
  unfold loseC
  split
  ·exact ⟨rfl, rfl, rfl, fun g => by cases g⟩
  ·exact ⟨rfl, rfl, rfl, id⟩
/-- What an acknowledgement leaves. -/
structure AkV (s s' : Sq) (u : Int) (l : List Iv) : Prop where
 b : s.b ≤ s'.b
 n : s'.n = s.n
 cov : Cov s → Cov s'
 cm : ∀ m, has s'.cm m = true → has s.cm m = true ∨ (s.b ≤ m ∧ m < u) ∨ has l m = true
 lo : ∀ m, s.b ≤ m → m < s'.b → has s.cm m = true ∨ (s.b ≤ m ∧ m < u) ∨ has l m = true
 fl : ∀ c ∈ s'.fl, ∃ c' ∈ s.fl, c'.f ≤ c.f ∧ c.t ≤ c'.t ∧ c.s = c'.s ∧ (c.l = false → c'.l = false)
 up : mayQ s u l = true → u ≤ s'.b
theorem ack_v {s : Sq} {all : List UInt8} (h : KI s all) (u : Int) (l : List Iv) (now : Int) : AkV s (rAck s u l now).1 u l := by
 cases hq : mayQ s u l
 ·have e : (rAck s u l now).1 = s := by
   unfold rAck
   rw [hq, if_pos rfl]
  rw [e]
  exact ⟨Int.le_refl _, rfl, id, fun m g => .inl g, fun m g1 g2 => by omega, fun c hc => ⟨c, hc, Int.le_refl _, Int.le_refl _, rfl, id⟩, fun g => by rw [hq] at g; cases g⟩
 ·have hc := cov_ack h
  obtain ⟨a, ao⟩ := ak_of h hq now
  have hB := a.bb
  have bm : ∀ m, has (ackAll s u l) m = true → has s.cm m = true ∨ (s.b ≤ m ∧ m < u) ∨ has l m = true := fun m g => by
   rw [ao.has] at g
   rcases Bool.or_eq_true_iff.1 g with g | g
   ·exact .inl g
   ·rcases Bool.or_eq_true_iff.1 g with g | g
    ·exact .inr (.inl (of_decide_eq_true g))
    ·exact .inr (.inr g)
  obtain ⟨l1, l2, l3, -⟩ := lose_b ⟨rFirst (ackAll s u l) u, s.d.drop (rFirst (ackAll s u l) u - s.b).toNat, s.n, s.fl.flatMap (fun c => lft c (ackAll s u l)), rCut (ackAll s u l) (0, rFirst (ackAll s u l) u)⟩
  rw [← a.y] at l1 l2 l3
  refine ⟨by rw [l1]; exact hB.1, l2, fun g => hc g u l now, fun m g => ?_, fun m g1 g2 => ?_, fun c hcc => ?_, fun _ => ?_⟩
  ·rw [l3] at g
   have := (cut_has ao.ok a.m).2 m
   rw [show has (rCut (ackAll s u l) (0, rFirst (ackAll s u l) u)) m = true from g] at this
   refine bm m ?_
   cases hh : has (ackAll s u l) m
   ·rw [hh] at this; cases this
   ·rfl
  ·rw [l1] at g2
   exact bm m (a.lo m g1 g2)
  ·rw [a.y] at hcc
   obtain ⟨c1, h1, e1, e2, e3, e4⟩ := lose_fl c hcc
   obtain ⟨c0, h0, h2⟩ := List.mem_flatMap.1 (show c1 ∈ s.fl.flatMap (fun c => lft c (ackAll s u l)) from h1)
   unfold lft at h2
   obtain ⟨x, hx, rfl⟩ := List.mem_map.1 h2
   have hg := (gap_in ao.ok (may_c h h0) x hx).1
   refine ⟨c0, h0, ?_, ?_, e3, e4⟩
   ·rw [e1]; exact hg.1
   ·rw [e2]; exact hg.2
  ·rw [l1]
   exact (first_in ao).1
theorem may_q {s : Sq} {all : List UInt8} (h : KI s all) {u : Int} (h1 : s.b ≤ u) (h2 : u ≤ s.n) {l : List Iv} (ok : Ok l) (hl : ∀ m, has l m = true → u ≤ m ∧ m < s.n) : mayQ s u l = true := by
 unfold mayQ
 rw [decide_eq_true ⟨h.chk, h1, h2, iChk_iff.2 ok⟩, Bool.true_and]
 have : l.any (outB s u) = false := by
  rw [List.any_eq_false]
  intro x hx
  have hs := srt_mem ok.srt x hx
  have a1 := hl x.1 (has_iff.2 ⟨x, hx, Int.le_refl _, by omega⟩)
  have a2 := hl (x.2 - 1) (has_iff.2 ⟨x, hx, by omega, by omega⟩)
  unfold outB
  rw [decide_eq_false (by omega), decide_eq_false (by omega)]
  simp
 rw [this]
 rfl
end Go.Proofs.YtalpfhpeaaocmaaGreat.C11
end
section
namespace Go.Proofs.YtalpfhpeaaocmaaGreat.C12
open Sx Go.RowKit
/-- A place that came. -/
def Rcv (s : Rq) (m : Int) : Prop := m < s.b ∨ ∃ c, dP s.p m = some c
section
variable {s : Rq} {m : Int}
theorem rcv_b (h : Ok s) : ¬Rcv s s.b := by
 rintro (g | ⟨c, g⟩)
 ·omega
 ·rw [srt_dP h.srt s.b (Int.le_refl _)] at g; cases g
theorem rcv_den (h : Ok s) (hm : rS s ≤ m) : Rcv s m ↔ ∃ c, den s m = some c := by
 constructor
 ·rintro (g | ⟨c, g⟩)
  ·exact den_r hm g
  ·by_cases q : m < s.b
   ·exact den_r hm q
   ·rw [den_ge (by omega)]; exact ⟨c, g⟩
 ·rintro ⟨c, g⟩
  by_cases q : m < s.b
  ·exact .inl q
  ·rw [den_ge (by omega)] at g
   exact .inr ⟨c, g⟩
theorem rS_b (h : Ok s) : rS s ≤ s.b := by have := h.b; unfold rS; omega
/-- Bytes come. -/
theorem put_rcv (h : Ok s) {a : Int} (a0 : 0 ≤ a) (a1 : a ≤ 1099511627776) (d : List UInt8) :
  Ok (rPut s a d).1 ∧ rS (rPut s a d).1 = rS s ∧ rLim (rPut s a d).1 = rLim s ∧ s.b ≤ (rPut s a d).1.b ∧ (∀ m, Rcv s m → Rcv (rPut s a d).1 m) ∧
  (∀ m, a ≤ m → m < a + d.length → m < rLim s → Rcv (rPut s a d).1 m) ∧ (∀ m, Rcv (rPut s a d).1 m → Rcv s m ∨ (a ≤ m ∧ m < a + d.length)) := by
 obtain ⟨i1, i2, i3, -⟩ := rPut_ok h a a0 a1 d
 have e := rS_b h
 have e' := rS_b i1
 have mono : ∀ m, rS s ≤ m → Rcv s m → Rcv (rPut s a d).1 m := fun m hm g => by
  obtain ⟨c, hc⟩ := (rcv_den h hm).1 g
  exact (rcv_den i1 (by rw [i2]; exact hm)).2 ⟨c, by rw [i3, hc]; rfl⟩
 have hb : s.b ≤ (rPut s a d).1.b := by
  rcases Int.lt_or_le (rPut s a d).1.b s.b with g | g
  ·exact absurd (mono _ (by omega) (.inl g)) (rcv_b i1)
  ·exact g
 refine ⟨i1, i2, rLim_of i2, hb, fun m g => ?_, fun m g1 g2 g3 => ?_, fun m g => ?_⟩
 ·by_cases hm : rS s ≤ m
  ·exact mono m hm g
  ·exact .inl (by omega)
 ·by_cases hm : rS s ≤ m
  ·refine (rcv_den i1 (by rw [i2]; exact hm)).2 ?_
   rw [i3, if_pos ⟨hm, g3⟩]
   obtain ⟨c, hc⟩ := bA_some (x := ⟨a, d⟩) g1 g2
   rw [hc]
   cases den s m with
   | none => exact ⟨c, rfl⟩
   | some x => exact ⟨x, rfl⟩
  ·exact .inl (by omega)
 ·by_cases hm : rS s ≤ m
  ·obtain ⟨c, hc⟩ := (rcv_den i1 (by rw [i2]; exact hm)).1 g
   rw [i3] at hc
   cases q : den s m with
   | some x => exact .inl ((rcv_den h hm).2 ⟨x, q⟩)
   | none =>
    rw [q, Option.none_or] at hc
    split at hc
    ·exact .inr (bA_in hc)
    ·cases hc
  ·exact .inl (.inl (by omega))
/-- Bytes are read. -/
theorem read_rcv (h : Ok s) (n : Int) : (rRead s n).1.b = s.b ∧ (∀ m, Rcv (rRead s n).1 m ↔ Rcv s m) ∧ rS s ≤ rS (rRead s n).1 ∧ rLim s ≤ rLim (rRead s n).1 := by
 unfold rRead
 split
 ·exact ⟨rfl, fun _ => Iff.rfl, Int.le_refl _, Int.le_refl _⟩
 ·refine ⟨rfl, fun _ => Iff.rfl, ?_, ?_⟩
  ·unfold rS; simp only [List.length_drop]; omega
  ·unfold rLim; simp only [List.length_drop]; omega
/-- Blocks tell what came. -/
theorem blk_rcv (h : Ok s) {x : C06.Iv} (hx : x ∈ rBlk s 3) : s.b ≤ x.1 ∧ x.1 ≤ x.2 ∧ x.2 ≤ rLim s ∧ ∀ m, x.1 ≤ m → m < x.2 → Rcv s m := by
 unfold rBlk at hx
 split at hx
 ·have hx := List.mem_of_mem_take hx
  obtain ⟨y, hy, rfl⟩ := List.mem_map.1 hx
  have h1 := (h.p y hy).2
  have h2 := pEnd_ge y
  refine ⟨?_, h2, h1, fun m g1 g2 => .inr (dP_some hy g1 g2)⟩
  have : ∀ {l : List Pt} {e : Int}, Srt e l → y ∈ l → e < y.a := by
   intro l
   induction l with
   | nil => intro e _ hm; cases hm
   | cons x r ih =>
    intro e hs hm
    rcases List.mem_cons.1 hm with rfl | hm
    ·exact hs.1
    ·have := ih hs.2 hm
     have := hs.1
     have := pEnd_ge x
     omega
  have := this h.srt hy
  show s.b ≤ y.a
  omega
 ·cases hx
end
end Go.Proofs.YtalpfhpeaaocmaaGreat.C12
end
section
namespace Go.Proofs.YtalpfhpeaaocmaaGreat
open Sx Go.RowKit
/-- Of one direction: what a sending end knows of the receiving one. -/
structure DI (s : C11.Sq) (li : Int) (q : C12.Rq) : Prop where
 bb : s.b ≤ q.b
 cm : ∀ m, C06.has s.cm m = true → C12.Rcv q m
 nx : ∀ m, C12.Rcv q m → m < s.n
 nl : s.n ≤ li
 lim : li ≤ C12.rLim q
 cov : C11.Cov s
theorem DI.qn {s : C11.Sq} {li : Int} {q : C12.Rq} (h : DI s li q) : q.b ≤ s.n := by
 have := h.nx (q.b - 1) (.inl (by omega)); omega
def nbv (h : Int) (x : C06.Iv) : Int × Int := (pNum h x.1, pNum h x.2)
/-- Where a segment's bytes stand. -/
def SegV (m : Int) (s : C11.Sq) (x : C13.Sg) : Prop := x.f = 2 ∨ x.f = 18 → ∃ a : Int, 0 ≤ a ∧ x.q = pNum m a ∧ a + x.t.length ≤ s.n
/-- What a segment tells to have come has come. -/
structure AckT (m : Int) (q : C12.Rq) (x : C13.Sg) (u : Int) (bs : List C06.Iv) : Prop where
 u0 : 0 ≤ u
 ub : u ≤ q.b
 a : x.a = pNum m u
 w : u + x.w ≤ C12.rLim q
 k : x.k = (bs.map (nbv m)).map bkD
 bs : ∀ y ∈ bs, 0 ≤ y.1 ∧ y.1 ≤ y.2 ∧ y.2 ≤ 200000 ∧ ∀ j, y.1 ≤ j → j < y.2 → C12.Rcv q j
def SegA (m : Int) (q : C12.Rq) (x : C13.Sg) : Prop := x.f = 2 ∨ x.f = 18 → ∃ u bs, AckT m q x u bs
theorem SegV.grow {m : Int} {s s' : C11.Sq} {x : C13.Sg} (h : SegV m s x) (hn : s.n ≤ s'.n) : SegV m s' x := fun g => by
 obtain ⟨a, h1, h2, h3⟩ := h g
 exact ⟨a, h1, h2, by omega⟩
structure Up (q q' : C12.Rq) : Prop where
 b : q.b ≤ q'.b
 r : ∀ m, C12.Rcv q m → C12.Rcv q' m
 l : C12.rLim q ≤ C12.rLim q'
theorem Up.refl (q : C12.Rq) : Up q q := ⟨Int.le_refl _, fun _ h => h, Int.le_refl _⟩
theorem AckT.grow {m : Int} {q q' : C12.Rq} {x : C13.Sg} {u : Int} {bs : List C06.Iv} (h : AckT m q x u bs) (g : Up q q') : AckT m q' x u bs :=
 ⟨h.u0, Int.le_trans h.ub g.b, h.a, Int.le_trans h.w g.l, h.k, fun y hy => by obtain ⟨a, b, c, d⟩ := h.bs y hy; exact ⟨a, b, c, fun j j1 j2 => g.r j (d j j1 j2)⟩⟩
theorem SegA.grow {m : Int} {q q' : C12.Rq} {x : C13.Sg} (h : SegA m q x) (g : Up q q') : SegA m q' x := fun k => by
 obtain ⟨u, bs, h1⟩ := h k
 exact ⟨u, bs, h1.grow g⟩
theorem DI.up {s : C11.Sq} {li : Int} {q q' : C12.Rq} (h : DI s li q) (g : Up q q') (hn : ∀ m, C12.Rcv q' m → C12.Rcv q m ∨ m < s.n) : DI s li q' :=
 ⟨Int.le_trans h.bb g.b, fun m hm => g.r m (h.cm m hm), fun m hm => (hn m hm).elim (h.nx m) id, h.nl, Int.le_trans h.lim g.l, h.cov⟩
structure Lk (x y : Pp) (m o : Int) (wx wy rx ry : List UInt8) : Prop where
 ex : EndI x m o wx
 ey : EndI y o m wy
 rx : C12.RI wy x.rq rx
 ry : C12.RI wx y.rq ry
 dx : DI x.sq x.li y.rq
 dy : DI y.sq y.li x.rq
theorem Lk.sw {x y : Pp} {m o : Int} {wx wy rx ry : List UInt8} (h : Lk x y m o wx wy rx ry) : Lk y x o m wy wx ry rx := ⟨h.ey, h.ex, h.ry, h.rx, h.dy, h.dx⟩
section
variable {x y : Pp} {m o : Int} {wx wy rx ry : List UInt8} {g : C13.Sg}
theorem Lk.lim (h : Lk x y m o wx wy rx ry) : x.li ≤ 104096 ∧ C12.rLim y.rq ≤ 104096 ∧ y.rq.b ≤ 100000 ∧ 0 ≤ y.rq.b := by
 have h1 := h.dx.lim
 have h2 := h.ry.bd
 have h3 := h.ex.wl
 have h4 : C12.rLim y.rq ≤ C12.rS y.rq + 4096 := Int.min_le_left _ _
 omega
theorem rWrite_same (s : C11.Sq) (t : List UInt8) : (C11.rWrite s t).1.b = s.b ∧ (C11.rWrite s t).1.n = s.n ∧ (C11.rWrite s t).1.cm = s.cm ∧ (C11.rWrite s t).1.fl = s.fl := by
 unfold C11.rWrite
 split
 ·exact ⟨rfl, rfl, rfl, rfl⟩
 ·split <;> exact ⟨rfl, rfl, rfl, rfl⟩
theorem DI.of {s s' : C11.Sq} {li : Int} {q : C12.Rq} (h : DI s li q) (e1 : s'.b = s.b) (e2 : s'.n = s.n) (e3 : s'.cm = s.cm) (hc : C11.Cov s') : DI s' li q :=
 ⟨by rw [e1]; exact h.bb, by rw [e3]; exact h.cm, by rw [e2]; exact h.nx, by rw [e2]; exact h.nl, h.lim, hc⟩
theorem lk_write (h : Lk x y m o wx wy rx ry) {t : List UInt8} (ht : wx.length + t.length ≤ 100000) : Lk (pWrite x t).1 y m o (wx ++ t.take (max 0 (min (pWrite x t).2 t.length)).toNat) wy rx ry := by
 obtain ⟨a, b⟩ := endI_write h.ex ht
 have hd : DI (pWrite x t).1.sq (pWrite x t).1.li y.rq := by
  unfold pWrite
  split
  ·exact h.dx
  ·obtain ⟨e1, e2, e3, -⟩ := rWrite_same x.sq t
   exact h.dx.of e1 e2 e3 (C11.cov_write h.dx.cov t)
 have hl : (pWrite x t).1.li = x.li := by unfold pWrite; split <;> rfl
 exact ⟨a, h.ey, by rw [b]; exact h.rx, h.ry.grow _, hd, by rw [b]; exact h.dy⟩
theorem tick_cases (s : Pp) (now : Int) : ((pTick s now).sq = s.sq ∨ (pTick s now).sq = (C11.rExpire s.sq).1) ∧ (pTick s now).li = s.li := by
 unfold pTick
 split
 ·exact ⟨.inl rfl, rfl⟩
 ·split
  ·exact ⟨.inl rfl, rfl⟩
  ·split
   ·exact ⟨.inl rfl, rfl⟩
   ·split
    ·exact ⟨.inr rfl, rfl⟩
    ·exact ⟨.inl rfl, rfl⟩
theorem lk_tick (h : Lk x y m o wx wy rx ry) {now : Int} (hn : now ≤ 1000) : Lk (pTick x now) y m o wx wy rx ry := by
 obtain ⟨a, b⟩ := endI_tick h.ex hn
 obtain ⟨c, d⟩ := tick_cases x now
 refine ⟨a, h.ey, by rw [b]; exact h.rx, h.ry, ?_, by rw [b]; exact h.dy⟩
 rw [d]
 rcases c with c | c
 ·rw [c]; exact h.dx
 ·rw [c]
  exact h.dx.of rfl rfl rfl (C11.cov_map h.dx.cov C11.lose1 fun c => ⟨rfl, rfl⟩)
theorem lk_read (h : Lk x y m o wx wy rx ry) (n : Int) : Lk (pRead x n).1 y m o wx wy (rx ++ (pRead x n).2) ry ∧ Up x.rq (pRead x n).1.rq := by
 obtain ⟨a, b⟩ := endI_read h.ex h.rx n
 obtain ⟨c1, c2, c3, c4⟩ := C12.read_rcv h.rx.ok n
 have hu : Up x.rq (pRead x n).1.rq := ⟨by show x.rq.b ≤ (C12.rRead x.rq n).1.b; omega, fun k hk => (c2 k).2 hk, c4⟩
 exact ⟨⟨a, h.ey, b, h.ry, h.dx, h.dy.up hu fun k hk => .inl ((c2 k).1 hk)⟩, hu⟩
theorem segA_bear (h : Lk x y m o wx wy rx ry) (hg : x.sh.g = 3) (a : Int) (t : List UInt8) (f : Int) : SegA o x.rq { pBear x a t with f := f } := fun _ => by
 have hb := h.rx.ok.b
 have hr := h.sw.lim
 have ho := h.ex.sh.h (.inr hg)
 obtain ⟨e, -, -⟩ := free_eq (s := x) h.rx.ok
 refine ⟨x.rq.b, C12.rBlk x.rq 3, by omega, Int.le_refl _, ?_, ?_, ?_, fun z hz => ?_⟩
 ·show pNum x.sh.h x.rq.b = _
  rw [ho]
 ·show x.rq.b + min (pFree x) 65535 ≤ _
  rw [e]; omega
 ·show (pBks x).map bkD = _
  unfold pBks
  rw [ho]
  rfl
 ·obtain ⟨z1, z2, z3, z4⟩ := C12.blk_rcv h.rx.ok hz
  exact ⟨by omega, z2, by omega, z4⟩
theorem lk_sq (h : Lk x y m o wx wy rx ry) {s : C11.Sq} {c : C11.Ck} {t : List UInt8} {now : Int} (hp : C11.PkV x.sq s c t now x.li) (hv : C11.Cov s) : DI s x.li y.rq := by
 have h1 := hp.nl
 have h2 := h.dx.nl
 have h3 := hp.n
 exact ⟨by rw [hp.b]; exact h.dx.bb, by rw [hp.cm]; exact h.dx.cm, fun k hk => Int.lt_of_lt_of_le (h.dx.nx k hk) hp.n, by omega, h.dx.lim, hv⟩
theorem out_li (s : Pp) : (pOut s).1.li = s.li := by
 unfold pOut pSpeak pGreet
 split
 ·split
  ·rfl
  ·split
   ·rfl
   ·split <;> rfl
 ·split <;> rfl
theorem lk_out (h : Lk x y m o wx wy rx ry) : Lk (pOut x).1 y m o wx wy rx ry ∧ ((pOut x).2.2 = true → SegI m wx (pOut x).2.1 ∧ SegV m (pOut x).1.sq (pOut x).2.1 ∧ SegA o x.rq (pOut x).2.1) := by
 obtain ⟨a, b, c⟩ := endI_out h.ex h.rx.ok
 have hm := h.ex.sh.m
 have key : DI (pOut x).1.sq x.li y.rq ∧ ((pOut x).2.2 = true → SegV m (pOut x).1.sq (pOut x).2.1 ∧ SegA o x.rq (pOut x).2.1) := by
  unfold pOut
  split
  ·next hu =>
   have hg : x.sh.g = 3 := beq_iff_eq.1 hu
   have hb0 := h.ex.sq.b0
   have hbn := h.ex.sq.bn
   have vv : ∀ (f : Int), SegV m x.sq { pBear x x.sq.n [] with f := f } := fun f _ => ⟨x.sq.n, by omega, by show pNum x.sh.m _ = _; rw [hm], by show x.sq.n + (0 : Int) ≤ _; omega⟩
   unfold pSpeak
   split
   ·next ht =>
    refine ⟨?_, fun _ => ⟨?_, segA_bear h hg _ _ 2⟩⟩
    ·rcases C11.pick_v h.ex.sq x.no x.wn.w x.li with ⟨-, q⟩ | q
     ·exact absurd q ht
     ·exact lk_sq h q (C11.cov_pick h.dx.cov _ _ _)
    ·rcases C11.pick_v h.ex.sq x.no x.wn.w x.li with ⟨-, q⟩ | q
     ·exact absurd q ht
     ·have q1 := q.len
      have q2 := q.cn
      have q3 := q.cb
      exact fun _ => ⟨(pPick x).2.1.f, by unfold pPick; omega, by show pNum x.sh.m _ = _; rw [hm], by show (pPick x).2.1.f + ((pPick x).2.2.length : Int) ≤ (pPick x).1.n; unfold pPick; omega⟩
   ·split
    ·exact ⟨h.dx, fun q => by cases q⟩
    ·split
     ·exact ⟨h.dx, fun _ => ⟨vv 2, segA_bear h hg _ _ 2⟩⟩
     ·exact ⟨h.dx, fun _ => ⟨vv 18, segA_bear h hg _ _ 18⟩⟩
  ·unfold pGreet
   split
   ·exact ⟨h.dx, fun q => by cases q⟩
   ·refine ⟨h.dx, fun _ => ?_⟩
    have hf : (C13.nOut x.sh).f ≠ 2 ∧ (C13.nOut x.sh).f ≠ 18 := by
     unfold C13.nOut
     split
     ·exact ⟨by show (1 : Int) ≠ 2; decide, by show (1 : Int) ≠ 18; decide⟩
     ·split
      ·exact ⟨by show (3 : Int) ≠ 2; decide, by show (3 : Int) ≠ 18; decide⟩
      ·exact ⟨by show (0 : Int) ≠ 2; decide, by show (0 : Int) ≠ 18; decide⟩
    exact ⟨fun k => by rcases k with k | k; exact absurd k hf.1; exact absurd k hf.2, fun k => by rcases k with k | k; exact absurd k hf.1; exact absurd k hf.2⟩
 refine ⟨⟨a, h.ey, by rw [b]; exact h.rx, h.ry, by rw [out_li]; exact key.1, by rw [b]; exact h.dy⟩, fun q => ⟨c q, (key.2 q).1, (key.2 q).2⟩⟩
theorem blocks_ok {u n : Int} {q : C12.Rq} (hu : 0 ≤ u ∧ u ≤ 200000) (hn : n = y.sq.n) : ∀ (bs : List C06.Iv) (l : List C06.Iv), (∀ z ∈ bs, 0 ≤ z.1 ∧ z.1 ≤ z.2 ∧ z.2 ≤ 200000 ∧ ∀ j, z.1 ≤ j → j < z.2 → C12.Rcv q j) → 0 ≤ y.sh.m ∧ y.sh.m < 4294967296 → C06.Ok l → (∀ j, C06.has l j = true → u ≤ j ∧ j < n ∧ C12.Rcv q j) →
  C06.Ok ((bs.map (nbv y.sh.m)).foldl (blkS y u) l) ∧ ∀ j, C06.has ((bs.map (nbv y.sh.m)).foldl (blkS y u) l) j = true → u ≤ j ∧ j < n ∧ C12.Rcv q j
 | [], l, _, _, h1, h2 => ⟨h1, h2⟩
 | z :: bs, l, hb, hm, h1, h2 => by
  rw [List.map_cons, List.foldl_cons]
  obtain ⟨b1, b2, b3, b4⟩ := hb z (by simp)
  have e : pIval y u (nbv y.sh.m z) = z := by
   unfold pIval nbv
   dsimp only
   rw [plc_num hm.1 hm.2 (by omega) (by omega) b1 (by omega), plc_num hm.1 hm.2 (by omega) (by omega) (by omega) (by omega)]
  have key : C06.Ok (blkS y u l (nbv y.sh.m z)) ∧ ∀ j, C06.has (blkS y u l (nbv y.sh.m z)) j = true → u ≤ j ∧ j < n ∧ C12.Rcv q j := by
   unfold blkS
   rw [e]
   split
   ·next g =>
    unfold pGood at g
    simp only [Bool.and_eq_true, decide_eq_true_eq] at g
    obtain ⟨a1, a2⟩ := C06.add_has h1 (y := z) (C06.mayB_iff.2 ⟨⟨b1, by omega⟩, by omega, by omega⟩)
    refine ⟨a1, fun j hj => ?_⟩
    rw [a2] at hj
    rcases Bool.or_eq_true_iff.1 hj with k | k
    ·exact h2 j k
    ·have k := of_decide_eq_true k
     exact ⟨by omega, by omega, b4 j k.1 k.2⟩
   ·exact ⟨h1, h2⟩
  exact blocks_ok hu hn bs _ (fun w hw => hb w (List.mem_cons_of_mem _ hw)) hm key.1 key.2
/-- What an acknowledgement does to the sending end. -/
structure AkE (s s' : Pp) (q : C12.Rq) (u : Int) : Prop where
 d : DI s'.sq s'.li q
 n : s'.sq.n = s.sq.n
 b : s.sq.b ≤ s'.sq.b
 li : s.li ≤ s'.li
 fl : ∀ c ∈ s'.sq.fl, ∃ c' ∈ s.sq.fl, c'.f ≤ c.f ∧ c.t ≤ c'.t ∧ c.s = c'.s ∧ (c.l = false → c'.l = false)
 up : s.sq.b ≤ u → u ≤ s'.sq.b
theorem ack_e (h : Lk x y m o wx wy rx ry) (hs : SegI m wx g) {u : Int} {bs : List C06.Iv} (ha : AckT o x.rq g u bs) (hf : g.f = 2 ∨ g.f = 18) : AkE y (pAcked y g) x.rq u ∧ (y.sq.b ≤ u → u + g.w ≤ (pAcked y g).li) := by
 have hm := h.ey.sh.m
 have hmb := h.ey.mb
 have k0 := h.ey.sq.b0
 have k1 := h.ey.sq.nd
 have k2 := h.ey.wl
 have k3 := h.ey.sq.bn
 have hq := h.sw.lim
 have hw := hs.wd
 have u0 := ha.u0
 have ub := ha.ub
 have hqn := h.dy.qn
 have eu : pCum y g = u := by
  unfold pCum
  rw [ha.a, hm, plc_num hmb.1 hmb.2 k0 (by omega) ha.u0 (by omega)]
 have ek : g.k.map bkOf = bs.map (nbv y.sh.m) := by
  rw [ha.k, hm, List.map_map]
  have : bkOf ∘ bkD = id := funext fun x => rfl
  rw [this, List.map_id]
 obtain ⟨o1, o2⟩ := blocks_ok (y := y) (u := u) (n := y.sq.n) (q := x.rq) ⟨ha.u0, by omega⟩ rfl bs [] ha.bs (by rw [hm]; exact hmb) C11.ok_nil (fun j hj => by cases hj)
 have ev : (pAcked y g).sq = (C11.rAck y.sq u (pBlocks y (bs.map (nbv y.sh.m)) u) y.no).1 := by
  show (C11.rAck y.sq (pCum y g) (pBlocks y (g.k.map bkOf) (pCum y g)) y.no).1 = _
  rw [eu, ek]
 have av := C11.ack_v h.ey.sq u (pBlocks y (bs.map (nbv y.sh.m)) u) y.no
 rw [← ev] at av
 have el : (pAcked y g).li = if y.sq.b ≤ u ∧ u ≤ y.sq.n then max y.li (IntKind.i64.wrap (u + g.w)) else y.li := by
  show (if y.sq.b ≤ pCum y g ∧ pCum y g ≤ y.sq.n then max y.li (IntKind.i64.wrap (pCum y g + g.w)) else y.li) = _
  rw [eu]
 have ew : IntKind.i64.wrap (u + g.w) = u + g.w := by rw [IntKind.wrap_i64]; omega
 have hl : y.li ≤ (pAcked y g).li ∧ (pAcked y g).li ≤ C12.rLim x.rq ∧ (y.sq.b ≤ u → u + g.w ≤ (pAcked y g).li) := by
  rw [el, ew]
  have := h.dy.lim
  have := ha.w
  split
  ·omega
  ·omega
 have three : ∀ j, C06.has y.sq.cm j = true ∨ (y.sq.b ≤ j ∧ j < u) ∨ C06.has (pBlocks y (bs.map (nbv y.sh.m)) u) j = true → C12.Rcv x.rq j := fun j k => by
  rcases k with k | k | k
  ·exact h.dy.cm j k
  ·exact .inl (by omega)
  ·exact (o2 j k).2.2
 refine ⟨⟨⟨?_, fun j hj => three j (av.cm j hj), by rw [av.n]; exact h.dy.nx, by rw [av.n]; have := h.dy.nl; omega, hl.2.1, av.cov h.dy.cov⟩, av.n, av.b, hl.1, av.fl, fun k => av.up (C11.may_q h.ey.sq k (by omega) o1 fun j hj => ⟨(o2 j hj).1, (o2 j hj).2.1⟩)⟩, hl.2.2⟩
 have hbb := h.dy.bb
 rcases Int.lt_or_le x.rq.b (pAcked y g).sq.b with k | k
 ·exact absurd (three _ (av.lo x.rq.b hbb k)) (C12.rcv_b h.rx.ok)
 ·exact k
theorem seg_put (h : Lk x y m o wx wy rx ry) (hv : SegV m x.sq g) (hs : SegI m wx g) (ht : g.t ≠ []) : ∃ a : Int, 0 ≤ a ∧ a ≤ 100000 ∧ pPlc m y.rq.b g.q = a ∧ a + g.t.length ≤ x.sq.n := by
 have hf : g.f = 2 ∨ g.f = 18 := by
  rcases hs.f with k | k | k | k
  ·exact absurd (hs.syn (.inl k)).2 ht
  ·exact absurd (hs.syn (.inr k)).2 ht
  ·exact .inl k
  ·exact .inr k
 obtain ⟨a, a0, a1, a2⟩ := hv hf
 have := h.lim
 have := h.ex.mb
 have := h.ex.sq.nd
 have := h.ex.wl
 exact ⟨a, a0, by omega, by rw [a1]; exact plc_num (by omega) (by omega) (by omega) (by omega) a0 (by omega), a2⟩
/-- An end that is up takes a segment. -/
theorem lk_took (h : Lk x y m o wx wy rx ry) (hu : y.sh.g = 3) (hs : SegI m wx g) (hv : SegV m x.sq g) (ha : SegA o x.rq g) :
  DI (pTook y g).sq (pTook y g).li x.rq ∧ DI x.sq x.li (pTook y g).rq ∧ Up y.rq (pTook y g).rq := by
 have hA : DI (pA y g).sq (pA y g).li x.rq ∧ (pA y g).sh = y.sh ∧ (pA y g).rq = y.rq := by
  unfold pA
  split
  ·next k =>
   have hf : g.f = 2 ∨ g.f = 18 := by
    have h1 : ¬(g.f = 1 ∨ g.f = 3) := fun q => by have := (has_1 hs.f).2 q; rw [k.2] at this; cases this
    rcases hs.f with q | q | q | q
    ·exact absurd (.inl q) h1
    ·exact absurd (.inr q) h1
    ·exact .inl q
    ·exact .inr q
   obtain ⟨u, bs, hu⟩ := ha hf
   exact ⟨(ack_e h hs hu hf).1.d, rfl, rfl⟩
  ·exact ⟨h.dy, rfl, rfl⟩
 rw [pTook_eq]
 obtain ⟨a1, a2, a3⟩ := hA
 refine ⟨a1, ?_⟩
 show DI x.sq x.li (if g.t ≠ [] then (C12.rPut (pA y g).rq (pPlc (pA y g).sh.h (pA y g).rq.b g.q) g.t).1 else (pA y g).rq) ∧ Up y.rq (if g.t ≠ [] then (C12.rPut (pA y g).rq (pPlc (pA y g).sh.h (pA y g).rq.b g.q) g.t).1 else (pA y g).rq)
 rw [a2, a3, h.ey.sh.h (.inr hu)]
 split
 ·next ht =>
  obtain ⟨a, p0, p1, p2, p3⟩ := seg_put h hv hs ht
  rw [p2]
  obtain ⟨-, -, q3, q4, q5, -, q7⟩ := C12.put_rcv h.ry.ok p0 (by omega) g.t
  have up : Up y.rq (C12.rPut y.rq a g.t).1 := ⟨q4, q5, by omega⟩
  exact ⟨h.dx.up up fun k hk => (q7 k hk).imp id fun w => by omega, up⟩
 ·exact ⟨h.dx, Up.refl _⟩
theorem lk_on (h : Lk x y m o wx wy rx ry) (hs : SegI m wx g) (hv : SegV m x.sq g) (ha : SegA o x.rq g) : Lk x (pOn y g) m o wx wy rx ry ∧ Up y.rq (pOn y g).rq ∧ (pOn y g).sq.n = y.sq.n := by
 obtain ⟨a, b⟩ := endI_on h.ey h.ex.mb hs h.ry h.ex.wl
 have key : DI (pOn y g).sq (pOn y g).li x.rq ∧ DI x.sq x.li (pOn y g).rq ∧ Up y.rq (pOn y g).rq := by
  unfold pOn
  split
  ·exact ⟨h.dy, h.dx, Up.refl _⟩
  ·split
   ·next hu =>
    have h1 : Lk x { y with he := y.no, sh := C13.nOn y.sh g } m o wx wy rx ry := ⟨h.ex, ⟨h.ey.sh.on hs, h.ey.mb, h.ey.sq, h.ey.wl, h.ey.rt, h.ey.wn, h.ey.li, h.ey.no⟩, h.rx, h.ry, h.dx, h.dy⟩
    exact lk_took h1 (beq_iff_eq.1 hu) hs hv ha
   ·exact ⟨h.dy, h.dx, Up.refl _⟩
 have en : (pOn y g).sq.n = y.sq.n := by
  have nA : ∀ s : Pp, EndI s o m wy → (pTook s g).sq.n = s.sq.n := fun s hs' => by
   rw [pTook_eq]
   show (pA s g).sq.n = _
   unfold pA
   split
   ·exact (C11.ack_v hs'.sq _ _ _).n
   ·rfl
  unfold pOn
  split
  ·rfl
  ·split
   ·exact nA _ ⟨h.ey.sh.on hs, h.ey.mb, h.ey.sq, h.ey.wl, h.ey.rt, h.ey.wn, h.ey.li, h.ey.no⟩
   ·rfl
 exact ⟨⟨h.ex, a, h.rx, b, key.2.1, key.1⟩, key.2.2, en⟩
end
end Go.Proofs.YtalpfhpeaaocmaaGreat
end
section
namespace Go.Proofs.YtalpfhpeaaocmaaGreat
open Sx Go.RowKit
def gA (r : AV) : List D → Option (AV × List Ob) := fun _ => some (r, [])
theorem dead26 (s : Pp) : FnOK Tryz.prog 26 ([.d (ppD s)]) ([]) (.d (.bool (pDead s))) ([]) := by
 refine fnOK_wp (p := (vB (s.sh.g == (4 : Int)) = vB (pDead s)) ∧ True) (h := {}) (subs := []) (ws := []) (ρ := []) (by kernel_rfl) ?_
 exact ⟨rfl, trivial⟩
theorem alive12 (s : Pp) : FnOK Tryz.prog 12 ([.d (ppD s)]) ([]) (.d (.bool (pUp s))) ([]) := by
 refine fnOK_wp (p := (vB (s.sh.g == (3 : Int)) = vB (pUp s)) ∧ True) (h := {}) (subs := []) (ws := []) (ρ := []) (by kernel_rfl) ?_
 exact ⟨rfl, trivial⟩
theorem ready18 (s : Pp) : FnOK Tryz.prog 18 ([.d (ppD s)]) ([]) (.d (.int .i64 s.rq.r.length)) ([]) := by
 refine fnOK_wp (p := (rf (vI (↑s.rq.r.length : Int))) ∧ True) (h := {}) (subs := []) (ws := []) (ρ := []) (by kernel_rfl) ?_
 exact ⟨rfl, trivial⟩
theorem idle13 (s : Pp) : FnOK Tryz.prog 13 ([.d (ppD s)]) ([]) (.d (.bool (s.sq.d == []))) ([]) := by
 refine fnOK_wp (p := (rf (vB (s.sq.d == []))) ∧ True) (h := {}) (subs := []) (ws := []) (ρ := []) (by kernel_rfl) ?_
 exact ⟨rfl, trivial⟩
theorem kill14 (s : Pp) : FnOK Tryz.prog 14 ([.d (ppD s)]) ([]) (.d (ppD (pKill s))) ([]) := by
 refine fnOK_wp (p := (FnOK Tryz.prog 25 [AV.d (C13.ndD s.sh)] [] (AV.d (.agg [D.int .u8 (C13.nAt s.sh (4 : Int)).g, D.int .i64 (C13.nAt s.sh (4 : Int)).p, D.int .i64 (C13.nAt s.sh (4 : Int)).e, D.int .u32 (C13.nAt s.sh (4 : Int)).m, D.int .u32 (C13.nAt s.sh (4 : Int)).h])) []) ∧ (AV.d (.agg [D.int .u8 (C13.nAt s.sh (4 : Int)).g, D.int .i64 (C13.nAt s.sh (4 : Int)).p, D.int .i64 (C13.nAt s.sh (4 : Int)).e, D.int .u32 (C13.nAt s.sh (4 : Int)).m, D.int .u32 (C13.nAt s.sh (4 : Int)).h, D.int .i64 s.sq.b, D.str s.sq.d, D.int .i64 s.sq.n, D.sl (List.map C11.ckD s.sq.fl), D.sl (List.map C06.ivD s.sq.cm), D.int .i64 s.rq.b, D.str s.rq.r, D.sl (List.map C12.ptD s.rq.p), D.int .i64 s.rt.s, D.int .i64 s.rt.v, D.bool s.rt.k, D.int .i64 s.rt.h, D.int .i64 s.wn.w, D.int .i64 s.wn.t, D.int .i64 s.wn.p, D.int .i64 s.li, D.int .i64 s.no, D.int .i64 s.he, D.int .i64 s.nx, D.int .i64 s.pr, D.bool s.du]) = AV.d (.agg [D.int .u8 (pKill s).sh.g, D.int .i64 (pKill s).sh.p, D.int .i64 (pKill s).sh.e, D.int .u32 (pKill s).sh.m, D.int .u32 (pKill s).sh.h, D.int .i64 (pKill s).sq.b, D.str (pKill s).sq.d, D.int .i64 (pKill s).sq.n, D.sl (List.map C11.ckD (pKill s).sq.fl), D.sl (List.map C06.ivD (pKill s).sq.cm), D.int .i64 (pKill s).rq.b, D.str (pKill s).rq.r, D.sl (List.map C12.ptD (pKill s).rq.p), D.int .i64 (pKill s).rt.s, D.int .i64 (pKill s).rt.v, D.bool (pKill s).rt.k, D.int .i64 (pKill s).rt.h, D.int .i64 (pKill s).wn.w, D.int .i64 (pKill s).wn.t, D.int .i64 (pKill s).wn.p, D.int .i64 (pKill s).li, D.int .i64 (pKill s).no, D.int .i64 (pKill s).he, D.int .i64 (pKill s).nx, D.int .i64 (pKill s).pr, D.bool (pKill s).du])) ∧ True) (h := {G := [(25, gA (.d (C13.ndD (C13.nAt s.sh 4))))]}) (subs := []) (ws := []) (ρ := []) (by kernel_rfl) ?_
 exact ⟨C13.kill22 s.sh, rfl, trivial⟩
theorem open23y (s : Pp) (h : s.sh.g = 0) : FnOK Tryz.prog 23 ([.d (ppD s)]) ([]) (.d (ppD { s with sh := C13.nAsk s.sh, he := s.no })) ([]) := by
 refine fnOK_wp (p := (D.bool (s.sh.g == (0 : Int)) = D.bool true) ∧ (FnOK Tryz.prog 44 [AV.d (C13.ndD s.sh)] [] (AV.d (.agg [D.int .u8 (C13.nAsk s.sh).g, D.int .i64 (C13.nAsk s.sh).p, D.int .i64 (C13.nAsk s.sh).e, D.int .u32 (C13.nAsk s.sh).m, D.int .u32 (C13.nAsk s.sh).h])) []) ∧ (rf (AV.d (.agg [D.int .u8 (C13.nAsk s.sh).g, D.int .i64 (C13.nAsk s.sh).p, D.int .i64 (C13.nAsk s.sh).e, D.int .u32 (C13.nAsk s.sh).m, D.int .u32 (C13.nAsk s.sh).h, D.int .i64 s.sq.b, D.str s.sq.d, D.int .i64 s.sq.n, D.sl (List.map C11.ckD s.sq.fl), D.sl (List.map C06.ivD s.sq.cm), D.int .i64 s.rq.b, D.str s.rq.r, D.sl (List.map C12.ptD s.rq.p), D.int .i64 s.rt.s, D.int .i64 s.rt.v, D.bool s.rt.k, D.int .i64 s.rt.h, D.int .i64 s.wn.w, D.int .i64 s.wn.t, D.int .i64 s.wn.p, D.int .i64 s.li, D.int .i64 s.no, D.int .i64 s.no, D.int .i64 s.nx, D.int .i64 s.pr, D.bool s.du]))) ∧ True) (h := {G := [(44, gA (.d (C13.ndD (C13.nAsk s.sh))))], H := [(1, [(3, .val (.bool true))])]}) (subs := []) (ws := []) (ρ := []) (by kernel_rfl) ?_
 repeat' (with_reducible first|exact ⟨⟩|apply And.intro|(first|apply zA|apply zB|apply zC|apply zD|apply zE|apply zF|apply zG)<;>intro)
 all_goals first | exact C13.ask11 s.sh | rfl | exact congrArg D.bool (beq_iff_eq.2 h) | skip
theorem open23n (s : Pp) (h : s.sh.g ≠ 0) : FnOK Tryz.prog 23 ([.d (ppD s)]) ([]) (.d (ppD s)) ([]) := by
 refine fnOK_wp (p := (D.bool (s.sh.g == (0 : Int)) = D.bool false) ∧ (rf (AV.d (ppD s))) ∧ True) (h := {H := [(1, [(3, .val (.bool false))])]}) (subs := []) (ws := []) (ρ := []) (by kernel_rfl) ?_
 repeat' (with_reducible first|exact ⟨⟩|apply And.intro|(first|apply zA|apply zB|apply zC|apply zD|apply zE|apply zF|apply zG)<;>intro)
 all_goals first | rfl | exact congrArg D.bool (beq_eq_false_iff_ne.2 h) | skip
theorem open23 (s : Pp) : FnOK Tryz.prog 23 [.d (ppD s)] [] (.d (ppD (pOpen s))) [] := by
 unfold pOpen
 split
 ·next h => exact open23y s h
 ·next h => exact open23n s h
theorem room21y (s : Pp) (h : pDead s = true) : FnOK Tryz.prog 21 ([.d (ppD s)]) ([]) (.d (.int .i64 0)) ([]) := by
 refine fnOK_wp (p := (FnOK Tryz.prog 26 [AV.d (ppD s)] [] (vB true) []) ∧ (rf (vI 0)) ∧ True) (h := {H := [(1, [(1, .call [] (.d (.bool true)) [])])]}) (subs := []) (ws := []) (ρ := []) (by kernel_rfl) ?_
 have k := dead26 s
 rw [h] at k
 repeat' (with_reducible first|exact ⟨⟩|apply And.intro|(first|apply zA|apply zB|apply zC|apply zD|apply zE|apply zF|apply zG)<;>intro)
 all_goals first | exact k | rfl | skip
theorem room21n (s : Pp) (h : pDead s = false) (n : Int) (k2 : FnOK Tryz.prog 37 [.d (C11.sqD s.sq)] [] (.d (.int .i64 n)) []) : FnOK Tryz.prog 21 ([.d (ppD s)]) ([]) (.d (.int .i64 n)) ([]) := by
 refine fnOK_wp (p := (FnOK Tryz.prog 26 [AV.d (ppD s)] [] (vB false) []) ∧ (FnOK Tryz.prog 37 [AV.d (C11.sqD s.sq)] [] (vI n) []) ∧ (rf (vI n)) ∧ True) (h := {H := [(1, [(1, .call [] (.d (.bool false)) [])]), (3, [(2, .call [] (.d (.int .i64 n)) [])])]}) (subs := []) (ws := []) (ρ := []) (by kernel_rfl) ?_
 have k := dead26 s
 rw [h] at k
 repeat' (with_reducible first|exact ⟨⟩|apply And.intro|(first|apply zA|apply zB|apply zC|apply zD|apply zE|apply zF|apply zG)<;>intro)
 all_goals first | exact k | exact k2 | rfl | skip
theorem sroom37 (s : C11.Sq) : FnOK Tryz.prog 37 ([.d (C11.sqD s)]) ([]) (.d (.int .i64 (IntKind.i64.wrap (4096 - (s.d.length : Int))))) ([]) := by
 refine fnOK_wp (p := (rf (vI (IntKind.i64.wrap ((4096 : Int) - (↑s.d.length : Int))))) ∧ True) (h := {}) (subs := []) (ws := []) (ρ := []) (by kernel_rfl) ?_
 repeat' (with_reducible first|exact ⟨⟩|apply And.intro|(first|apply zA|apply zB|apply zC|apply zD|apply zE|apply zF|apply zG)<;>intro)
 all_goals first | rfl | skip
theorem room21 (s : Pp) : FnOK Tryz.prog 21 [.d (ppD s)] [] (.d (.int .i64 (pRoom s))) [] := by
 unfold pRoom
 split
 ·next h => exact room21y s h
 ·next h => exact room21n s (by simpa using h) _ (sroom37 s.sq)
theorem write15y (s : Pp) (x : List UInt8) (h : pDead s = true) : FnOK Tryz.prog 15 ([.d (ppD s), .d (.str x)]) ([]) (.tup [.d (ppD s), .d (.int .i64 0)]) ([]) := by
 refine fnOK_wp (p := (FnOK Tryz.prog 26 [AV.d (ppD s)] [] (vB true) []) ∧ (rf (AV.tup [AV.d (ppD s), vI 0])) ∧ True) (h := {H := [(1, [(1, .call [] (.d (.bool true)) [])])]}) (subs := []) (ws := []) (ρ := []) (by kernel_rfl) ?_
 have k := dead26 s
 rw [h] at k
 repeat' (with_reducible first|exact ⟨⟩|apply And.intro|(first|apply zA|apply zB|apply zC|apply zD|apply zE|apply zF|apply zG)<;>intro)
 all_goals first | exact k | rfl | skip
theorem write15n (s : Pp) (x : List UInt8) (h : pDead s = false) (q : C11.Sq) (n : Int) (k2 : FnOK Tryz.prog 27 [.d (C11.sqD s.sq), .d (.str x)] [] (.tup [.d (C11.sqD q), .d (.int .i64 n)]) []) : FnOK Tryz.prog 15 ([.d (ppD s), .d (.str x)]) ([]) (.tup [.d (ppD { s with sq := q }), .d (.int .i64 n)]) ([]) := by
 refine fnOK_wp (p := (FnOK Tryz.prog 26 [AV.d (ppD s)] [] (vB false) []) ∧ (FnOK Tryz.prog 27 [AV.d (C11.sqD s.sq), vS x] [] (AV.tup [AV.d (C11.sqD q), vI n]) []) ∧ (rf (AV.tup [AV.d (ppD { s with sq := q }), vI n])) ∧ True) (h := {H := [(1, [(1, .call [] (.d (.bool false)) [])]), (4, [(3, .call [] (.tup [.d (C11.sqD q), .d (.int .i64 n)]) [])])]}) (subs := []) (ws := []) (ρ := []) (by kernel_rfl) ?_
 have k := dead26 s
 rw [h] at k
 repeat' (with_reducible first|exact ⟨⟩|apply And.intro|(first|apply zA|apply zB|apply zC|apply zD|apply zE|apply zF|apply zG)<;>intro)
 all_goals first | exact k | exact k2 | rfl | skip
theorem write15 (s : Pp) (ok : C11.SqOk s.sq) (x : List UInt8) (hx : x.length < 100000000) : FnOK Tryz.prog 15 [.d (ppD s), .d (.str x)] [] (.tup [.d (ppD (pWrite s x).1), .d (.int .i64 (pWrite s x).2)]) [] := by
 unfold pWrite
 split
 ·next h => exact write15y s x h
 ·next h => exact write15n s x (by simpa using h) _ _ (C11.write10 s.sq ok x hx)
theorem free33w (s : Pp) (n : Int) (k2 : FnOK Tryz.prog 64 [.d (C12.rqD s.rq)] [] (.d (.int .i64 n)) []) : FnOK Tryz.prog 33 ([.d (ppD s)]) ([]) (.d (.int .i64 (IntKind.i64.wrap (n - s.rq.b)))) ([]) := by
 refine fnOK_wp (p := (FnOK Tryz.prog 64 [AV.d (C12.rqD s.rq)] [] (vI n) []) ∧ (rf (vI (IntKind.i64.wrap (n - s.rq.b)))) ∧ True) (h := {H := [(1, [(2, .call [] (.d (.int .i64 n)) [])])]}) (subs := []) (ws := []) (ρ := []) (by kernel_rfl) ?_
 repeat' (with_reducible first|exact ⟨⟩|apply And.intro|(first|apply zA|apply zB|apply zC|apply zD|apply zE|apply zF|apply zG)<;>intro)
 all_goals first | exact k2 | rfl | skip
theorem free33 (s : Pp) (hb : C12.Rb s.rq) (h0 : 0 ≤ s.rq.b ∧ s.rq.b ≤ 1099511627776) : FnOK Tryz.prog 33 [.d (ppD s)] [] (.d (.int .i64 (pFree s))) [] := free33w s _ (C12.lim26 s.rq h0.1 h0.2 hb.r)
theorem num84 (f a : Int) : FnOK Tryz.prog 84 ([.d (.int .u32 f), .d (.int .i64 a)]) ([]) (.d (.int .u32 (pNum f a))) ([]) := by
 refine fnOK_wp (p := (FnOK Tryz.prog 58 [vW f, vI (IntKind.i64.wrap (a + (1 : Int)))] [] (vW (pNum f a)) []) ∧ (rf (vW (pNum f a))) ∧ True) (h := {G := [(58, gA (.d (.int .u32 (pNum f a))))]}) (subs := []) (ws := []) (ρ := []) (by kernel_rfl) ?_
 repeat' (with_reducible first|exact ⟨⟩|apply And.intro|(first|apply zA|apply zB|apply zC|apply zD|apply zE|apply zF|apply zG)<;>intro)
 all_goals first | exact C13.add30 _ _ | rfl | skip
theorem place63 (f near n : Int) : FnOK Tryz.prog 63 ([.d (.int .u32 f), .d (.int .i64 near), .d (.int .u32 n)]) ([]) (.d (.int .i64 (pPlc f near n))) ([]) := by
 refine fnOK_wp (p := (FnOK Tryz.prog 58 [vW n, vI (-1 : Int)] [] (vW (C13.aAdd n (-1 : Int))) []) ∧ (FnOK Tryz.prog 96 [vI near, vW (IntKind.u32.wrap (C13.aAdd n (-1 : Int) - f))] [] (vI (pPlc f near n)) []) ∧ (rf (vI (pPlc f near n))) ∧ True) (h := {G := [(58, gA (.d (.int .u32 (C13.aAdd n (-1))))), (96, gA (.d (.int .i64 (pPlc f near n))))]}) (subs := []) (ws := []) (ρ := []) (by kernel_rfl) ?_
 repeat' (with_reducible first|exact ⟨⟩|apply And.intro|(first|apply zA|apply zB|apply zC|apply zD|apply zE|apply zF|apply zG)<;>intro)
 all_goals first | exact C13.add30 _ _ | rfl | (refine C04.long16 _ _ ?_ ?_ <;> (rw [IntKind.wrap_u32]; omega)) | skip
theorem new22 (p e m : Int) (h : C13.nChk (C13.nNew p e m) = 0) : FnOK Tryz.prog 22 ([.d (.int .i64 p), .d (.int .i64 e), .d (.int .u32 m)]) ([]) (.tup [.d (ppD (pNew p e m)), .d (.int .i64 0)]) ([]) := by
 refine fnOK_wp (p := (FnOK Tryz.prog 38 [vI p, vI e, vW m] [] (AV.d (.agg [D.int .u8 (C13.nNew p e m).g, D.int .i64 (C13.nNew p e m).p, D.int .i64 (C13.nNew p e m).e, D.int .u32 (C13.nNew p e m).m, D.int .u32 (C13.nNew p e m).h])) []) ∧ (FnOK Tryz.prog 39 [AV.d (.agg [D.int .u8 (C13.nNew p e m).g, D.int .i64 (C13.nNew p e m).p, D.int .i64 (C13.nNew p e m).e, D.int .u32 (C13.nNew p e m).m, D.int .u32 (C13.nNew p e m).h])] [] (vI 0) []) ∧ (rf (D.bool false)) ∧ (FnOK Tryz.prog 40 [] [] (AV.d (.agg [D.int .i64 0, D.str [], D.int .i64 0, D.sl [], D.sl []])) []) ∧ (FnOK Tryz.prog 41 [] [] (AV.d (.agg [D.int .i64 0, D.str [], D.sl []])) []) ∧ (FnOK Tryz.prog 42 [] [] (AV.d (.agg [D.int .i64 0, D.int .i64 0, D.bool false, D.int .i64 0])) []) ∧ (FnOK Tryz.prog 43 [] [] (AV.d (.agg [D.int .i64 96, D.int .i64 1024, D.int .i64 0])) []) ∧ (AV.tup [AV.d (.agg [D.int .u8 (C13.nNew p e m).g, D.int .i64 (C13.nNew p e m).p, D.int .i64 (C13.nNew p e m).e, D.int .u32 (C13.nNew p e m).m, D.int .u32 (C13.nNew p e m).h, D.int .i64 0, D.str [], D.int .i64 0, D.sl [], D.sl [], D.int .i64 0, D.str [], D.sl [], D.int .i64 0, D.int .i64 0, D.bool false, D.int .i64 0, D.int .i64 96, D.int .i64 1024, D.int .i64 0, D.int .i64 4096, D.int .i64 0, D.int .i64 0, D.int .i64 0, D.int .i64 0, D.bool false]), vI 0] = AV.tup [AV.d (.agg [D.int .u8 (pNew p e m).sh.g, D.int .i64 (pNew p e m).sh.p, D.int .i64 (pNew p e m).sh.e, D.int .u32 (pNew p e m).sh.m, D.int .u32 (pNew p e m).sh.h, D.int .i64 (pNew p e m).sq.b, D.str (pNew p e m).sq.d, D.int .i64 (pNew p e m).sq.n, D.sl [], D.sl [], D.int .i64 (pNew p e m).rq.b, D.str (pNew p e m).rq.r, D.sl [], D.int .i64 (pNew p e m).rt.s, D.int .i64 (pNew p e m).rt.v, D.bool false, D.int .i64 (pNew p e m).rt.h, D.int .i64 (pNew p e m).wn.w, D.int .i64 (pNew p e m).wn.t, D.int .i64 (pNew p e m).wn.p, D.int .i64 (pNew p e m).li, D.int .i64 (pNew p e m).no, D.int .i64 (pNew p e m).he, D.int .i64 (pNew p e m).nx, D.int .i64 (pNew p e m).pr, D.bool false]), vI 0]) ∧ True) (h := {G := [(38, gA (.d (C13.ndD (C13.nNew p e m)))), (39, gA (.d (.int .i64 0))), (40, gA (.d (C11.sqD ⟨0, [], 0, [], []⟩))), (41, gA (.d (C12.rqD ⟨0, [], []⟩))), (42, gA (.d (C08.rD C08.rNew))), (43, gA (.d (C10.aD C10.aNew)))], H := [(3, [(1, .val (.bool false))])]}) (subs := []) (ws := []) (ρ := []) (by kernel_rfl) ?_
 have k := C13.chk14 (C13.nNew p e m)
 rw [h] at k
 repeat' (with_reducible first|exact ⟨⟩|apply And.intro|(first|apply zA|apply zB|apply zC|apply zD|apply zE|apply zF|apply zG)<;>intro)
 all_goals first | exact k | exact C13.new12 _ _ _ | exact C08.new18 | exact C10.new21 | exact C11.new30 trivial trivial | exact C12.new30 | rfl | skip
theorem new22n (p e m : Int) (h : C13.nChk (C13.nNew p e m) = 8) : FnOK Tryz.prog 22 ([.d (.int .i64 p), .d (.int .i64 e), .d (.int .u32 m)]) ([]) (.tup [.d (ppD ⟨⟨0, 0, 0, 0, 0⟩, ⟨0, [], 0, [], []⟩, ⟨0, [], []⟩, ⟨0, 0, false, 0⟩, ⟨0, 0, 0⟩, 0, 0, 0, 0, 0, false⟩), .d (.int .i64 8)]) ([]) := by
 refine fnOK_wp (p := (FnOK Tryz.prog 38 [vI p, vI e, vW m] [] (AV.d (.agg [D.int .u8 (C13.nNew p e m).g, D.int .i64 (C13.nNew p e m).p, D.int .i64 (C13.nNew p e m).e, D.int .u32 (C13.nNew p e m).m, D.int .u32 (C13.nNew p e m).h])) []) ∧ (FnOK Tryz.prog 39 [AV.d (.agg [D.int .u8 (C13.nNew p e m).g, D.int .i64 (C13.nNew p e m).p, D.int .i64 (C13.nNew p e m).e, D.int .u32 (C13.nNew p e m).m, D.int .u32 (C13.nNew p e m).h])] [] (vI 8) []) ∧ (rf (D.bool true)) ∧ (rf (AV.tup [AV.d (pxD (0 : Int) (0 : Int) (0 : Int) (0 : Int) (0 : Int) (0 : Int) [] (0 : Int) [] [] (0 : Int) [] [] (0 : Int) (0 : Int) false (0 : Int) (0 : Int) (0 : Int) (0 : Int) (0 : Int) (0 : Int) (0 : Int) (0 : Int) (0 : Int) false), vI 8])) ∧ True) (h := {G := [(38, gA (.d (C13.ndD (C13.nNew p e m)))), (39, gA (.d (.int .i64 8)))], H := [(3, [(1, .val (.bool true))])]}) (subs := []) (ws := []) (ρ := []) (by kernel_rfl) ?_
 have k := C13.chk14 (C13.nNew p e m)
 rw [h] at k
 repeat' (with_reducible first|exact ⟨⟩|apply And.intro|(first|apply zA|apply zB|apply zC|apply zD|apply zE|apply zF|apply zG)<;>intro)
 all_goals first | exact k | exact C13.new12 _ _ _ | rfl | skip
theorem read19y (s : Pp) (n : Int) (f : Int) (q : C12.Rq) (t : List UInt8) (k1 : FnOK Tryz.prog 33 [.d (ppD s)] [] (.d (.int .i64 f)) []) (k2 : FnOK Tryz.prog 34 [.d (C12.rqD s.rq), .d (.int .i64 n)] [] (.tup [.d (C12.rqD q), .d (.str t)]) []) (h : f < 48) (ht : t ≠ []) : FnOK Tryz.prog 19 ([.d (ppD s), .d (.int .i64 n)]) ([]) (.tup [.d (ppD { s with rq := q, du := true }), .d (.str t)]) ([]) := by
 refine fnOK_wp (p := (FnOK Tryz.prog 33 [AV.d (ppD s)] [] (vI f) []) ∧ (FnOK Tryz.prog 34 [AV.d (C12.rqD s.rq), vI n] [] (AV.tup [AV.d (C12.rqD q), vS t]) []) ∧ (D.bool (decide (f < (48 : Int))) = D.bool true) ∧ ((D.bool !t == []) = D.bool true) ∧ (rf (AV.tup [AV.d (ppD { s with rq := q, du := true }), vS t])) ∧ True) (h := {G := [(33, gA (.d (.int .i64 f))), (34, gA (.tup [.d (C12.rqD q), .d (.str t)]))], H := [(4, [(1, .val (.bool true)), (4, .val (.bool true))])]}) (subs := []) (ws := []) (ρ := []) (by kernel_rfl) ?_
 repeat' (with_reducible first|exact ⟨⟩|apply And.intro|(first|apply zA|apply zB|apply zC|apply zD|apply zE|apply zF|apply zG)<;>intro)
 all_goals first | exact k1 | exact k2 | rfl | exact dyes (by assumption) | (refine congrArg D.bool ?_; simp_all; done) | (exfalso; simp_all; done) | (exfalso; omega) | skip
theorem read19n (s : Pp) (n : Int) (f : Int) (q : C12.Rq) (t : List UInt8) (k1 : FnOK Tryz.prog 33 [.d (ppD s)] [] (.d (.int .i64 f)) []) (k2 : FnOK Tryz.prog 34 [.d (C12.rqD s.rq), .d (.int .i64 n)] [] (.tup [.d (C12.rqD q), .d (.str t)]) []) (h : ¬(f < 48 ∧ t ≠ [])) : FnOK Tryz.prog 19 ([.d (ppD s), .d (.int .i64 n)]) ([]) (.tup [.d (ppD { s with rq := q }), .d (.str t)]) ([]) := by
 refine fnOK_wp (p := (FnOK Tryz.prog 33 [AV.d (ppD s)] [] (vI f) []) ∧ (FnOK Tryz.prog 34 [AV.d (C12.rqD s.rq), vI n] [] (AV.tup [AV.d (C12.rqD q), vS t]) []) ∧ (condP (decide (f < (48 : Int))) ((D.bool (decide (f < (48 : Int))) = D.bool true) ∧ ((D.bool !t == []) = D.bool false) ∧ (rf (AV.tup [AV.d (ppD { s with rq := q }), vS t])) ∧ True) ((D.bool (decide (f < (48 : Int))) = D.bool false) ∧ (rf (D.bool false)) ∧ (rf (AV.tup [AV.d (ppD { s with rq := q }), vS t])) ∧ True))) (h := {G := [(33, gA (.d (.int .i64 f))), (34, gA (.tup [.d (C12.rqD q), .d (.str t)]))], H := [(4, [(4, .val (.bool false))])]}) (subs := []) (ws := []) (ρ := []) (by kernel_rfl) ?_
 repeat' (with_reducible first|exact ⟨⟩|apply And.intro|(first|apply zA|apply zB|apply zC|apply zD|apply zE|apply zF|apply zG)<;>intro)
 all_goals first | exact k1 | exact k2 | rfl | exact dyes (by assumption) | (refine congrArg D.bool ?_; simp_all; done) | (exfalso; simp_all; done) | (exfalso; omega) | skip
theorem read19 (s : Pp) (hb : C12.Rb s.rq) (h0 : 0 ≤ s.rq.b ∧ s.rq.b ≤ 1099511627776) (hl : s.rq.p.length < 1000000) (n : Int) : FnOK Tryz.prog 19 [.d (ppD s), .d (.int .i64 n)] [] (.tup [.d (ppD (pRead s n).1), .d (.str (pRead s n).2)]) [] := by
 have k1 := free33 s hb h0
 have k2 := C12.read13 s.rq hb hl n
 unfold pRead
 by_cases h : pFree s < 48 ∧ (C12.rRead s.rq n).2 ≠ []
 ·rw [decide_eq_true h.1, decide_eq_true h.2, Bool.and_self, Bool.or_true]
  exact read19y s n _ _ _ k1 k2 h.1 h.2
 ·have e : (decide (pFree s < 48) && decide ((C12.rRead s.rq n).2 ≠ [])) = false := by
   rw [← Bool.decide_and]; exact decide_eq_false h
  rw [e, Bool.or_false]
  exact read19n s n _ _ _ k1 k2 h
end Go.Proofs.YtalpfhpeaaocmaaGreat
end
section
namespace Go.Proofs.YtalpfhpeaaocmaaGreat
open Sx Go.RowKit
def gNum : List D → Option (AV × List Ob) := fun | [.int _ f, .int _ a] => some (.d (.int .u32 (pNum f a)), []) | _ => none
def gPlc : List D → Option (AV × List Ob) := fun | [.int _ f, .int _ m, .int _ n] => some (.d (.int .i64 (pPlc f m n)), []) | _ => none
def nb (h : Int) (x : C06.Iv) : Int × Int := (pNum h x.1, pNum h x.2)
def sgZB : Ob := .box [.d (.int .u8 0), .d (.int .i64 0), .d (.int .i64 0), .d (.int .u32 0), .d (.int .u32 0), .d (.int .i64 0), .raw (.slice none 0 0), .d (.str [])]
def sgXB (s : Pp) (a f : Int) (t : List UInt8) (o : AV) : Ob := .box [.d (.int .u8 2), .d (.int .i64 s.sh.p), .d (.int .i64 s.sh.e), .d (.int .u32 (pNum s.sh.m a)), .d (.int .u32 (pNum s.sh.h s.rq.b)), .d (.int .i64 (min f 65535)), o, .d (.str t)]
def IB (s : Pp) (a f : Int) (t : List UInt8) (l : List C06.Iv) (j : Nat) : St := ⟨[(0, .ptr 0 0), (6, .ptr 3 0), (7, .d (.int .u32 s.sh.h)), (8, .ptr 1 0), (58, .d (.sl (l.map C06.ivD))), (59, .d (.int .i64 l.length)), (60, .d (.int .i64 j))], [(0, ppB s), (1, sgXB s a f t (.own 2 2)), (2, .row 2 (((l.take j).map (nb s.sh.h)).map bkD)), (3, sgZB)]⟩
theorem rB (s : Pp) (a f : Int) (t : List UInt8) (l : List C06.Iv) (hl : l.length < 1000000) (j : Nat) (x : C06.Iv) (hn : l[j]? = some x) : Runs Tryz.prog 1 (loopN Tryz.prog 55 0) (St.as (IB s a f t l j) 84) (.normal) (St.as (IB s a f t l (j+1)) 84) := by
 refine round_wp (p := condP (decide ((↑j : Int) < (↑l.length : Int))) (((0 : Int) ≤ (↑j : Int)) ∧ ((List.map C06.ivD l)[(↑j : Int).toNat]? = some (D.agg [D.int .i64 x.fst, D.int .i64 x.snd])) ∧ (FnOK Tryz.prog 84 [vW s.sh.h, vI x.fst] [] (vW (pNum s.sh.h x.fst)) []) ∧ (FnOK Tryz.prog 84 [vW s.sh.h, vI x.snd] [] (vW (pNum s.sh.h x.snd)) []) ∧ (((List.map bkD (List.map (nb s.sh.h) (List.take j l))).length + [D.agg (List.take 2 [D.int .u32 (pNum s.sh.h x.fst), D.int .u32 (pNum s.sh.h x.snd)])].length) * 8 ≤ 140737488355328) ∧ (∀ (e : D), e ∈ chunk 2 1 [D.int .u32 (pNum s.sh.h x.fst), D.int .u32 (pNum s.sh.h x.snd)] → e.cells.length = 2) ∧ (rf (AV.ptr 0 0)) ∧ (rf (AV.ptr 3 0)) ∧ (rf (vW s.sh.h)) ∧ (rf (AV.ptr 1 0)) ∧ (rf (vL (List.map C06.ivD l))) ∧ (rf (vI (↑l.length : Int))) ∧ (vI (IntKind.i64.wrap ((↑j : Int) + (1 : Int))) = vI (↑(j + 1) : Int)) ∧ (rf (ppB s)) ∧ (rf (Ob.box [vU 2, vI s.sh.p, vI s.sh.e, vW (pNum s.sh.m a), vW (pNum s.sh.h s.rq.b), vI (min f (65535 : Int)), AV.own 1608 2, vS t])) ∧ (Ob.row 2 (List.map bkD (List.map (nb s.sh.h) (List.take j l)) ++ [D.agg (List.take 2 [D.int .u32 (pNum s.sh.h x.fst), D.int .u32 (pNum s.sh.h x.snd)])]) = Ob.row 2 (List.map bkD (List.map (nb s.sh.h) (List.take (j + 1) l)))) ∧ (rf (Ob.box [vU 0, vI 0, vI 0, vW 0, vW 0, vI 0, AV.raw (Value.slice none 0 0), vS []])) ∧ True) (False)) (h := {els := [(58, .el (C06.ivD x))], G := [(84, gNum)]}) (subs := []) (ws := []) (ρ := []) (by kernel_rfl) ?_
 have hj := get_lt hn
 have hi := inc_i64 (j := j) (by omega)
 have e : (l.take (j + 1)).map (nb s.sh.h) = (l.take j).map (nb s.sh.h) ++ [nb s.sh.h x] := by rw [take_snoc hn, List.map_append]; rfl
 rw [hi, e, List.map_append]
 refine condP_t (by rw [decide_eq_true_eq]; omega) ?_
 repeat' (with_reducible first|exact ⟨⟩|apply And.intro|(first|apply zA|apply zB|apply zC|apply zD|apply zE|apply zF|apply zG)<;>intro)
 all_goals first | exact num84 _ _ | exact el_map hn rfl | rfl | omega | (simp; omega) | (simp [chunk, bkD, D.cells]; done) | skip
theorem qB (s : Pp) (a f : Int) (t : List UInt8) (l : List C06.Iv) : Runs Tryz.prog 1 (loopN Tryz.prog 55 0) (St.as (IB s a f t l l.length) 84) (.exit 0) (St.as (IB s a f t l l.length) 84) := by
 refine round_wp (p := condP (decide ((↑l.length : Int) < (↑l.length : Int))) (False) ((rf (AV.ptr 0 0)) ∧ (rf (AV.ptr 3 0)) ∧ (rf (vW s.sh.h)) ∧ (rf (AV.ptr 1 0)) ∧ (rf (vL (List.map C06.ivD l))) ∧ (rf (vI (↑l.length : Int))) ∧ (rf (vI (↑l.length : Int))) ∧ (rf (ppB s)) ∧ (rf (Ob.box [vU 2, vI s.sh.p, vI s.sh.e, vW (pNum s.sh.m a), vW (pNum s.sh.h s.rq.b), vI (min f (65535 : Int)), AV.own 2 2, vS t])) ∧ (rf (Ob.row 2 (List.map bkD (List.map (nb s.sh.h) (List.take l.length l))))) ∧ (rf (Ob.box [vU 0, vI 0, vI 0, vW 0, vW 0, vI 0, AV.raw (Value.slice none 0 0), vS []])) ∧ True)) (h := {}) (subs := []) (ws := []) (ρ := []) (by kernel_rfl) ?_
 repeat' (with_reducible first|exact ⟨⟩|apply And.intro|(first|apply zA|apply zB|apply zC|apply zD|apply zE|apply zF|apply zG)<;>intro)
 all_goals (try simp only [List.length_map, AV.d.injEq, D.int.injEq, D.bool.injEq, D.str.injEq, D.sl.injEq, true_and, and_true, decide_eq_true_eq, decide_eq_false_iff_not, decide_eq_decide])
 all_goals (try simp only [List.length_map] at *)
 all_goals first | rfl | omega
theorem bear55w (s : Pp) (a f : Int) (t : List UInt8) (l : List C06.Iv) (k1 : FnOK Tryz.prog 33 [.d (ppD s)] [] (.d (.int .i64 f)) []) (k2 : FnOK Tryz.prog 85 [.d (C12.rqD s.rq), .d (.int .i64 3)] [] (.d (.sl (l.map C06.ivD))) []) (hL : Loops Tryz.prog 1 (loopN Tryz.prog 55 0) ((IB s a f t l 0).as 84) (.exit 0) ((IB s a f t l l.length).as 84)) : FnOK Tryz.prog 55 ([.ptr 0 0, .d (.int .i64 a), .d (.str t)]) ([ppB s]) (.d (C13.sgD ⟨2, s.sh.p, s.sh.e, pNum s.sh.m a, pNum s.sh.h s.rq.b, min f 65535, (l.map (nb s.sh.h)).map bkD, t⟩)) ([ppB { s with du := false }]) := by
 refine fnOK_wp (p := (FnOK Tryz.prog 84 [vW s.sh.m, vI a] [] (vW (pNum s.sh.m a)) []) ∧ (FnOK Tryz.prog 84 [vW s.sh.h, vI s.rq.b] [] (vW (pNum s.sh.h s.rq.b)) []) ∧ (FnOK Tryz.prog 33 [AV.d (ppD s)] [] (vI f) []) ∧ (FnOK Tryz.prog 85 [AV.d (C12.rqD s.rq), vI 3] [] (vL (List.map C06.ivD l)) []) ∧ (rf (AV.ptr 0 0)) ∧ (rf (AV.ptr 1048 0)) ∧ (rf (vW s.sh.h)) ∧ (rf (AV.ptr 1064 0)) ∧ (rf (vL (List.map C06.ivD l))) ∧ (vI (↑(List.map C06.ivD l).length : Int) = vI (↑l.length : Int)) ∧ (rf (vI 0)) ∧ (rf (ppB s)) ∧ (rf (Ob.box [vU 2, vI s.sh.p, vI s.sh.e, vW (pNum s.sh.m a), vW (pNum s.sh.h s.rq.b), vI (min f (65535 : Int)), AV.own 500 2, vS t])) ∧ (rf (Ob.row 2 [])) ∧ (rf (Ob.box [vU 0, vI 0, vI 0, vW 0, vW 0, vI 0, AV.raw (Value.slice none 0 0), vS []])) ∧ (LoopsS Tryz.prog 1 (loopN Tryz.prog 55 0) (IB s a f t l 0) (Exit.exit 0) (IB s a f t l l.length) 84) ∧ (AV.d (.agg [D.int .u8 2, D.int .i64 s.sh.p, D.int .i64 s.sh.e, D.int .u32 (pNum s.sh.m a), D.int .u32 (pNum s.sh.h s.rq.b), D.int .i64 (min f (65535 : Int)), D.sl (List.map bkD (List.map (nb s.sh.h) (List.take l.length l))), D.str t]) = AV.d (.agg [D.int .u8 2, D.int .i64 s.sh.p, D.int .i64 s.sh.e, D.int .u32 (pNum s.sh.m a), D.int .u32 (pNum s.sh.h s.rq.b), D.int .i64 (min f (65535 : Int)), D.sl (List.map bkD (List.map (nb s.sh.h) l)), D.str t])) ∧ (rf (ppB { s with du := false })) ∧ True) (h := {G := [(84, gNum), (33, gA (.d (.int .i64 f))), (85, gA (.d (.sl (l.map C06.ivD))))]}) (subs := [⟨[.nilcell 1064 6 500 2], [], IB s a f t l 0, .exit 0, IB s a f t l l.length⟩]) (ws := []) (ρ := []) (by kernel_rfl) ?_
 simp only [List.length_map]
 repeat' (with_reducible first|exact ⟨⟩|apply And.intro|(first|apply zA|apply zB|apply zC|apply zD|apply zE|apply zF|apply zG)<;>intro)
 all_goals first | exact k1 | exact k2 | exact hL | exact num84 _ _ | rfl | (rw [List.take_length]) | skip
theorem rBlk_len (s : C12.Rq) : (C12.rBlk s 3).length ≤ 3 := by
 unfold C12.rBlk
 split
 ·rw [List.length_take]; omega
 ·simp
theorem bear55 (s : Pp) (hb : C12.Rb s.rq) (h0 : 0 ≤ s.rq.b ∧ s.rq.b ≤ 1099511627776) (a : Int) (t : List UInt8) : FnOK Tryz.prog 55 [.ptr 0 0, .d (.int .i64 a), .d (.str t)] [ppB s] (.d (C13.sgD (pBear s a t))) [ppB { s with du := false }] := by
 have hl := rBlk_len s.rq
 exact bear55w s a (pFree s) t (C12.rBlk s.rq 3) (free33 s hb h0) (C12.blk24 s.rq hb 3) (loops_n (I := fun j => (IB s a (pFree s) t (C12.rBlk s.rq 3) j).as 84) (by simp) _ 0 (by omega) (fun j _ hj => rB s a _ t _ (by omega) j _ (get_of hj)) (qB s a _ t _))
def IK (s : Pp) (bs : List (Int × Int)) (cum : Int) (out : List C06.Iv) (j : Nat) : St := ⟨[(0, .ptr 0 0), (2, .d (.int .i64 cum)), (7, .d (.sl (out.map C06.ivD))), (8, .d (.int .i64 (max cum 0))), (9, .d (.int .u32 s.sh.m)), (21, .d (.sl (bs.map bkD))), (22, .d (.int .i64 bs.length)), (23, .d (.int .i64 j))], [(0, ppB s)]⟩
theorem rK (s : Pp) (bs : List (Int × Int)) (hl : bs.length < 1000000) (cum : Int) (out : List C06.Iv) (j : Nat) (b : Int × Int) (hn : bs[j]? = some b) (out' : List C06.Iv) (k1 : FnOK Tryz.prog 106 [.d (.sl (out.map C06.ivD)), .d (C06.ivD (pIval s cum b))] [] (.d (.sl (out'.map C06.ivD))) []) (h : pGood s cum (pIval s cum b) = true) : Runs Tryz.prog 1 (loopN Tryz.prog 89 0) (St.as (IK s bs cum out j) 65) (.normal) (St.as (IK s bs cum out' (j+1)) 65) := by
 refine round_wp (p := condP (decide ((↑j : Int) < (↑bs.length : Int))) (((0 : Int) ≤ (↑j : Int)) ∧ ((List.map bkD bs)[(↑j : Int).toNat]? = some (D.agg [D.int .u32 b.fst, D.int .u32 b.snd])) ∧ (FnOK Tryz.prog 63 [vW s.sh.m, vI (max cum (0 : Int)), vW b.fst] [] (vI (pPlc s.sh.m (max cum (0 : Int)) b.fst)) []) ∧ (FnOK Tryz.prog 63 [vW s.sh.m, vI (max cum (0 : Int)), vW b.snd] [] (vI (pPlc s.sh.m (max cum (0 : Int)) b.snd)) []) ∧ (D.bool (decide (pPlc s.sh.m (max cum (0 : Int)) b.fst ≥ cum)) = D.bool true) ∧ (rf (D.bool true)) ∧ (D.bool (decide (pPlc s.sh.m (max cum (0 : Int)) b.snd > pPlc s.sh.m (max cum (0 : Int)) b.fst)) = D.bool true) ∧ (rf (D.bool true)) ∧ (D.bool (decide (pPlc s.sh.m (max cum (0 : Int)) b.snd ≤ s.sq.n)) = D.bool true) ∧ (FnOK Tryz.prog 106 [vL (List.map C06.ivD out), AV.d (.agg [D.int .i64 (pPlc s.sh.m (max cum (0 : Int)) b.fst), D.int .i64 (pPlc s.sh.m (max cum (0 : Int)) b.snd)])] [] (vL (List.map C06.ivD out')) []) ∧ (rf (AV.ptr 0 0)) ∧ (rf (vI cum)) ∧ (rf (vL (List.map C06.ivD out'))) ∧ (rf (vI (max cum (0 : Int)))) ∧ (rf (vW s.sh.m)) ∧ (rf (vL (List.map bkD bs))) ∧ (rf (vI (↑bs.length : Int))) ∧ (vI (IntKind.i64.wrap ((↑j : Int) + (1 : Int))) = vI (↑(j + 1) : Int)) ∧ (rf (ppB s)) ∧ True) (False)) (h := {els := [(21, .el (bkD b))], G := [(63, gPlc), (106, gA (.d (.sl (out'.map C06.ivD))))], H := [(7, [(3, .val (.bool true)), (9, .val (.bool true)), (20, .val (.bool true))])]}) (subs := []) (ws := []) (ρ := []) (by kernel_rfl) ?_
 have hj := get_lt hn
 have hi := inc_i64 (j := j) (by omega)
 rw [hi]
 simp only [List.length_map]
 refine condP_t (by rw [decide_eq_true_eq]; omega) ?_
 unfold pGood pIval at h
 simp only [Bool.and_eq_true, decide_eq_true_eq] at h
 repeat' (with_reducible first|exact ⟨⟩|apply And.intro|(first|apply zA|apply zB|apply zC|apply zD|apply zE|apply zF|apply zG)<;>intro)
 all_goals first | exact k1 | exact place63 _ _ _ | exact el_map hn rfl | rfl | omega | exact dyes (by omega) | (refine congrArg D.bool ?_; rw [decide_eq_true_eq]; omega) | skip
theorem sK (s : Pp) (bs : List (Int × Int)) (hl : bs.length < 1000000) (cum : Int) (out : List C06.Iv) (j : Nat) (b : Int × Int) (hn : bs[j]? = some b) (h : pGood s cum (pIval s cum b) = false) : Runs Tryz.prog 1 (loopN Tryz.prog 89 0) (St.as (IK s bs cum out j) 65) (.normal) (St.as (IK s bs cum out (j+1)) 65) := by
 refine round_wp (p := condP (decide ((↑j : Int) < (↑bs.length : Int))) (((0 : Int) ≤ (↑j : Int)) ∧ ((List.map bkD bs)[(↑j : Int).toNat]? = some (D.agg [D.int .u32 b.fst, D.int .u32 b.snd])) ∧ (FnOK Tryz.prog 63 [vW s.sh.m, vI (max cum (0 : Int)), vW b.fst] [] (vI (pPlc s.sh.m (max cum (0 : Int)) b.fst)) []) ∧ (FnOK Tryz.prog 63 [vW s.sh.m, vI (max cum (0 : Int)), vW b.snd] [] (vI (pPlc s.sh.m (max cum (0 : Int)) b.snd)) []) ∧ (condP (decide (pPlc s.sh.m (max cum (0 : Int)) b.fst ≥ cum)) (condP (decide (pPlc s.sh.m (max cum (0 : Int)) b.snd > pPlc s.sh.m (max cum (0 : Int)) b.fst)) ((D.bool (decide (pPlc s.sh.m (max cum (0 : Int)) b.fst ≥ cum)) = D.bool true) ∧ (D.bool (decide (pPlc s.sh.m (max cum (0 : Int)) b.snd > pPlc s.sh.m (max cum (0 : Int)) b.fst)) = D.bool true) ∧ (D.bool (decide (pPlc s.sh.m (max cum (0 : Int)) b.snd ≤ s.sq.n)) = D.bool false) ∧ (rf (AV.ptr 0 0)) ∧ (rf (vI cum)) ∧ (rf (vL (List.map C06.ivD out))) ∧ (rf (vI (max cum (0 : Int)))) ∧ (rf (vW s.sh.m)) ∧ (rf (vL (List.map bkD bs))) ∧ (rf (vI (↑bs.length : Int))) ∧ (vI (IntKind.i64.wrap ((↑j : Int) + (1 : Int))) = vI (↑(j + 1) : Int)) ∧ (rf (ppB s)) ∧ True) ((D.bool (decide (pPlc s.sh.m (max cum (0 : Int)) b.fst ≥ cum)) = D.bool true) ∧ (D.bool (decide (pPlc s.sh.m (max cum (0 : Int)) b.snd > pPlc s.sh.m (max cum (0 : Int)) b.fst)) = D.bool false) ∧ (rf (AV.ptr 0 0)) ∧ (rf (vI cum)) ∧ (rf (vL (List.map C06.ivD out))) ∧ (rf (vI (max cum (0 : Int)))) ∧ (rf (vW s.sh.m)) ∧ (rf (vL (List.map bkD bs))) ∧ (rf (vI (↑bs.length : Int))) ∧ (vI (IntKind.i64.wrap ((↑j : Int) + (1 : Int))) = vI (↑(j + 1) : Int)) ∧ (rf (ppB s)) ∧ True)) ((D.bool (decide (pPlc s.sh.m (max cum (0 : Int)) b.fst ≥ cum)) = D.bool false) ∧ (rf (D.bool false)) ∧ (rf (AV.ptr 0 0)) ∧ (rf (vI cum)) ∧ (rf (vL (List.map C06.ivD out))) ∧ (rf (vI (max cum (0 : Int)))) ∧ (rf (vW s.sh.m)) ∧ (rf (vL (List.map bkD bs))) ∧ (rf (vI (↑bs.length : Int))) ∧ (vI (IntKind.i64.wrap ((↑j : Int) + (1 : Int))) = vI (↑(j + 1) : Int)) ∧ (rf (ppB s)) ∧ True))) (False)) (h := {els := [(21, .el (bkD b))], G := [(63, gPlc), (106, gA (.d (.sl [])))], H := [(7, [(20, .val (.bool false))])]}) (subs := []) (ws := []) (ρ := []) (by kernel_rfl) ?_
 have hj := get_lt hn
 have hi := inc_i64 (j := j) (by omega)
 rw [hi]
 simp only [List.length_map]
 refine condP_t (by rw [decide_eq_true_eq]; omega) ?_
 unfold pGood pIval at h
 simp only [Bool.and_eq_false_iff, decide_eq_false_iff_not] at h
 repeat' (with_reducible first|exact ⟨⟩|apply And.intro|(first|apply zA|apply zB|apply zC|apply zD|apply zE|apply zF|apply zG)<;>intro)
 all_goals first | exact place63 _ _ _ | exact el_map hn rfl | rfl | exact dyes (by assumption) | exact dno (by assumption) | (exfalso; omega) | (refine congrArg D.bool ?_; rw [decide_eq_false_iff_not]; omega) | omega | skip
theorem qK (s : Pp) (bs : List (Int × Int)) (cum : Int) (out : List C06.Iv) : Runs Tryz.prog 1 (loopN Tryz.prog 89 0) (St.as (IK s bs cum out bs.length) 65) (.exit 0) (St.as (IK s bs cum out bs.length) 65) := by
 refine round_wp (p := condP (decide ((↑bs.length : Int) < (↑bs.length : Int))) (False) ((rf (AV.ptr 0 0)) ∧ (rf (vI cum)) ∧ (rf (vL (List.map C06.ivD out))) ∧ (rf (vI (max cum (0 : Int)))) ∧ (rf (vW s.sh.m)) ∧ (rf (vL (List.map bkD bs))) ∧ (rf (vI (↑bs.length : Int))) ∧ (rf (vI (↑bs.length : Int))) ∧ (rf (ppB s)) ∧ True)) (h := {}) (subs := []) (ws := []) (ρ := []) (by kernel_rfl) ?_
 repeat' (with_reducible first|exact ⟨⟩|apply And.intro|(first|apply zA|apply zB|apply zC|apply zD|apply zE|apply zF|apply zG)<;>intro)
 all_goals (try simp only [List.length_map, AV.d.injEq, D.int.injEq, D.bool.injEq, D.str.injEq, D.sl.injEq, true_and, and_true, decide_eq_true_eq, decide_eq_false_iff_not, decide_eq_decide])
 all_goals (try simp only [List.length_map] at *)
 all_goals first | rfl | omega
theorem blocks89w (s : Pp) (bs : List (Int × Int)) (cum : Int) (out : List C06.Iv) (hL : Loops Tryz.prog 1 (loopN Tryz.prog 89 0) ((IK s bs cum [] 0).as 65) (.exit 0) ((IK s bs cum out bs.length).as 65)) : FnOK Tryz.prog 89 ([.ptr 0 0, .d (.sl (bs.map bkD)), .d (.int .i64 cum)]) ([ppB s]) (.d (.sl (out.map C06.ivD))) ([ppB s]) := by
 refine fnOK_wp (p := (rf (AV.ptr 0 0)) ∧ (rf (vI cum)) ∧ (rf (vL [])) ∧ (rf (vI (max cum (0 : Int)))) ∧ (rf (vW s.sh.m)) ∧ (rf (vL (List.map bkD bs))) ∧ (vI (↑(List.map bkD bs).length : Int) = vI (↑bs.length : Int)) ∧ (rf (vI 0)) ∧ (rf (ppB s)) ∧ (LoopsS Tryz.prog 1 (loopN Tryz.prog 89 0) (IK s bs cum [] 0) (Exit.exit 0) (IK s bs cum out bs.length) 65) ∧ (rf (vL (List.map C06.ivD out))) ∧ (rf (ppB s)) ∧ True) (h := {}) (subs := [⟨[.nild 7], [], IK s bs cum [] 0, .exit 0, IK s bs cum out bs.length⟩]) (ws := []) (ρ := []) (by kernel_rfl) ?_
 simp only [List.length_map]
 repeat' (with_reducible first|exact ⟨⟩|apply And.intro|(first|apply zA|apply zB|apply zC|apply zD|apply zE|apply zF|apply zG)<;>intro)
 all_goals first | exact hL | rfl | skip
theorem stA_len (x : C06.Iv) : ∀ (l : List C06.Iv) (p : List C06.Iv × Bool), (l.foldl (C06.stA x) p).1.length ≤ p.1.length + l.length + (if (l.foldl (C06.stA x) p).2 = true ∧ p.2 = false then 1 else 0) ∧ (p.2 = true → (l.foldl (C06.stA x) p).2 = true)
 | [], p => by simp
 | y :: l, p => by
  obtain ⟨h1, h2⟩ := stA_len x l (C06.stA x p y)
  rw [List.foldl_cons, List.length_cons]
  have e : ((C06.stA x p y).1.length ≤ p.1.length + 1 ∧ (C06.stA x p y).2 = p.2) ∨ ((C06.stA x p y).1.length ≤ p.1.length + 2 ∧ (C06.stA x p y).2 = true ∧ p.2 = false) := by
   unfold C06.stA
   split
   ·next h =>
    refine .inr ⟨?_, rfl, h.1⟩
    have a := C06.pPut_len p.1 x
    have b := C06.pPut_len (C06.pPut p.1 x) y
    show (C06.pPut (C06.pPut p.1 x) y).length ≤ _
    omega
   ·exact .inl ⟨C06.pPut_len p.1 y, rfl⟩
  rcases e with ⟨e1, e2⟩ | ⟨e1, e2, e3⟩
  ·rw [e2] at h1 h2
   exact ⟨by omega, h2⟩
  ·rw [e2] at h1 h2
   have h3 := h2 rfl
   rw [h3, e3]
   simp at h1
   simp
   omega
theorem rAdd_len (s : List C06.Iv) (x : C06.Iv) : (C06.rAdd s x).length ≤ s.length + 1 := by
 unfold C06.rAdd
 split
 ·omega
 ·unfold C06.pAdd C06.pAddF
  obtain ⟨h1, h2⟩ := stA_len x s ([], false)
  split
  ·next h => rw [h] at h1; simp at h1; omega
  ·next h =>
   have := C06.pPut_len (s.foldl (C06.stA x) ([], false)).1 x
   rw [if_neg (by simp [h])] at h1
   simp at h1
   omega
theorem pBlocks_len (s : Pp) (cum : Int) : ∀ (bs : List (Int × Int)) (l : List C06.Iv), (bs.foldl (blkS s cum) l).length ≤ l.length + bs.length
 | [], l => by simp
 | b :: bs, l => by
  have h := pBlocks_len s cum bs (blkS s cum l b)
  have h2 : (blkS s cum l b).length ≤ l.length + 1 := by
   unfold blkS
   split
   ·exact rAdd_len _ _
   ·omega
  rw [List.foldl_cons, List.length_cons]
  omega
theorem blocks89 (s : Pp) (bs : List (Int × Int)) (hl : bs.length < 100000) (cum : Int) : FnOK Tryz.prog 89 [.ptr 0 0, .d (.sl (bs.map bkD)), .d (.int .i64 cum)] [ppB s] (.d (.sl ((pBlocks s bs cum).map C06.ivD))) [ppB s] := by
 refine blocks89w s bs cum (pBlocks s bs cum) ?_
 have h := loops_n (P := Tryz.prog) (k := 1) (c := loopN Tryz.prog 89 0) (e := .exit 0) (I := fun j => (IK s bs cum (pBlocks s (bs.take j) cum) j).as 65) (by simp) bs.length 0 (by omega) (fun j _ hj => by
  have hn := get_of hj
  have e : pBlocks s (bs.take (j + 1)) cum = blkS s cum (pBlocks s (bs.take j) cum) bs[j] := by
   unfold pBlocks; rw [take_snoc hn, List.foldl_append]; rfl
  have hlen := pBlocks_len s cum (bs.take j) []
  rw [e]
  unfold blkS
  by_cases hg : pGood s cum (pIval s cum bs[j]) = true
  ·rw [if_pos hg]
   exact rK s bs (by omega) cum _ j _ hn _ (C06.add11 _ (by unfold pBlocks; rw [List.length_take] at hlen; simp at hlen; omega) _) hg
  ·rw [if_neg hg]
   exact sK s bs (by omega) cum _ j _ hn (by simpa using hg)) (by rw [List.take_length]; exact qK s bs cum _)
 exact h
end Go.Proofs.YtalpfhpeaaocmaaGreat
end
section
namespace Go.Proofs.YtalpfhpeaaocmaaGreat
open Sx Go.RowKit
def pRt (rt rt1 : C08.Rtt) (r : C11.Rp) : C08.Rtt := if r.s ≥ 0 then rt1 else rt
def pWn (wn wa wl : C10.Aim) (r : C11.Rp) : C10.Aim := if r.l = true then wl else if r.a > 0 then wa else wn
theorem pRt_y {rt rt1 : C08.Rtt} {r : C11.Rp} (h : r.s ≥ 0) : pRt rt rt1 r = rt1 := if_pos h
theorem pRt_n {rt rt1 : C08.Rtt} {r : C11.Rp} (h : ¬r.s ≥ 0) : pRt rt rt1 r = rt := if_neg h
theorem pWn_l {wn wa wl : C10.Aim} {r : C11.Rp} (h : r.l = true) : pWn wn wa wl r = wl := if_pos h
theorem pWn_a {wn wa wl : C10.Aim} {r : C11.Rp} (h : r.l = false) (g : r.a > 0) : pWn wn wa wl r = wa := by unfold pWn; rw [if_neg (by simp [h]), if_pos g]
theorem pWn_n {wn wa wl : C10.Aim} {r : C11.Rp} (h : r.l = false) (g : ¬r.a > 0) : pWn wn wa wl r = wn := by unfold pWn; rw [if_neg (by simp [h]), if_neg g]
theorem acked61y (s s' : Pp) (x : C13.Sg) (bs : List (Int × Int)) (hk : x.k = bs.map bkD) (cum li : Int) (hcum : cum = pCum s x) (bl : List C06.Iv) (q : C11.Sq) (r : C11.Rp) (rt1 : C08.Rtt) (wa wl : C10.Aim) (hz : s' = { s with li := li, sq := q, rt := pRt s.rt rt1 r, wn := pWn s.wn wa wl r }) (k1 : FnOK Tryz.prog 89 [.ptr 0 0, .d (.sl (bs.map bkD)), .d (.int .i64 cum)] [ppB { s with li := li }] (.d (.sl (bl.map C06.ivD))) [ppB { s with li := li }]) (k2 : FnOK Tryz.prog 88 [.d (C11.sqD s.sq), .d (.int .i64 cum), .d (.sl (bl.map C06.ivD)), .d (.int .i64 s.no)] [] (.tup [.d (C11.sqD q), .d (C11.rpD r)]) []) (k3 : FnOK Tryz.prog 90 [.d (C08.rD s.rt), .d (.int .i64 r.s)] [] (.d (C08.rD rt1)) []) (k4 : FnOK Tryz.prog 91 [.d (C10.aD s.wn), .d (.int .i64 r.a)] [] (.d (C10.aD wa)) []) (k5 : FnOK Tryz.prog 72 [.d (C10.aD (if r.a > 0 then wa else s.wn))] [] (.d (C10.aD wl)) []) (h : s.sq.b ≤ cum ∧ cum ≤ s.sq.n) (hl : li = max s.li (IntKind.i64.wrap (cum + x.w))) : FnOK Tryz.prog 61 ([.ptr 0 0, .d (C13.sgD x)]) ([ppB s]) (.tup []) ([ppB s']) := by
 refine fnOK_wp (p := (FnOK Tryz.prog 63 [vW s.sh.m, vI s.sq.b, vW x.a] [] (vI cum) []) ∧ (D.bool (decide (s.sq.b ≤ cum)) = D.bool true) ∧ (D.bool (decide (cum ≤ s.sq.n)) = D.bool true) ∧ (D.int .i64 (max s.li (IntKind.i64.wrap (cum + x.w))) = D.int .i64 li) ∧ (FnOK Tryz.prog 89 [AV.ptr 0 0, vL x.k, vI cum] [ppB { s with li := li }] (vL (List.map C06.ivD bl)) [ppB { s with li := li }]) ∧ (FnOK Tryz.prog 88 [AV.d (C11.sqD s.sq), vI cum, vL (List.map C06.ivD bl), vI s.no] [] (AV.tup [AV.d (C11.sqD q), AV.d (.agg [D.int .i64 r.a, D.int .i64 r.s, D.bool r.l])]) []) ∧ (condP (decide (r.s ≥ (0 : Int))) ((FnOK Tryz.prog 90 [AV.d (C08.rD s.rt), vI r.s] [] (AV.d (C08.rD rt1)) []) ∧ (condP (decide (r.a > (0 : Int))) ((FnOK Tryz.prog 91 [AV.d (C10.aD s.wn), vI r.a] [] (AV.d (C10.aD wa)) []) ∧ (condP (r.l) ((FnOK Tryz.prog 72 [AV.d (C10.aD wa)] [] (AV.d (C10.aD wl)) []) ∧ (rf (AV.tup [])) ∧ (pxB s.sh.g s.sh.p s.sh.e s.sh.m s.sh.h q.b q.d q.n q.fl q.cm s.rq.b s.rq.r s.rq.p rt1.s rt1.v rt1.k rt1.h wl.w wl.t wl.p li s.no s.he s.nx s.pr s.du = ppB s') ∧ True) ((rf (AV.tup [])) ∧ (pxB s.sh.g s.sh.p s.sh.e s.sh.m s.sh.h q.b q.d q.n q.fl q.cm s.rq.b s.rq.r s.rq.p rt1.s rt1.v rt1.k rt1.h wa.w wa.t wa.p li s.no s.he s.nx s.pr s.du = ppB s') ∧ True))) (condP (r.l) ((FnOK Tryz.prog 72 [AV.d (C10.aD s.wn)] [] (AV.d (C10.aD wl)) []) ∧ (rf (AV.tup [])) ∧ (pxB s.sh.g s.sh.p s.sh.e s.sh.m s.sh.h q.b q.d q.n q.fl q.cm s.rq.b s.rq.r s.rq.p rt1.s rt1.v rt1.k rt1.h wl.w wl.t wl.p li s.no s.he s.nx s.pr s.du = ppB s') ∧ True) ((rf (AV.tup [])) ∧ (pxB s.sh.g s.sh.p s.sh.e s.sh.m s.sh.h q.b q.d q.n q.fl q.cm s.rq.b s.rq.r s.rq.p rt1.s rt1.v rt1.k rt1.h s.wn.w s.wn.t s.wn.p li s.no s.he s.nx s.pr s.du = ppB s') ∧ True)))) (condP (decide (r.a > (0 : Int))) ((FnOK Tryz.prog 91 [AV.d (C10.aD s.wn), vI r.a] [] (AV.d (C10.aD wa)) []) ∧ (condP (r.l) ((FnOK Tryz.prog 72 [AV.d (C10.aD wa)] [] (AV.d (C10.aD wl)) []) ∧ (rf (AV.tup [])) ∧ (pxB s.sh.g s.sh.p s.sh.e s.sh.m s.sh.h q.b q.d q.n q.fl q.cm s.rq.b s.rq.r s.rq.p s.rt.s s.rt.v s.rt.k s.rt.h wl.w wl.t wl.p li s.no s.he s.nx s.pr s.du = ppB s') ∧ True) ((rf (AV.tup [])) ∧ (pxB s.sh.g s.sh.p s.sh.e s.sh.m s.sh.h q.b q.d q.n q.fl q.cm s.rq.b s.rq.r s.rq.p s.rt.s s.rt.v s.rt.k s.rt.h wa.w wa.t wa.p li s.no s.he s.nx s.pr s.du = ppB s') ∧ True))) (condP (r.l) ((FnOK Tryz.prog 72 [AV.d (C10.aD s.wn)] [] (AV.d (C10.aD wl)) []) ∧ (rf (AV.tup [])) ∧ (pxB s.sh.g s.sh.p s.sh.e s.sh.m s.sh.h q.b q.d q.n q.fl q.cm s.rq.b s.rq.r s.rq.p s.rt.s s.rt.v s.rt.k s.rt.h wl.w wl.t wl.p li s.no s.he s.nx s.pr s.du = ppB s') ∧ True) ((rf (AV.tup [])) ∧ (ppB { s with sq := q, li := li } = ppB s') ∧ True))))) (h := {H := [(2, [(8, .val (.bool true)), (17, .val (.bool true))]), (3, [(10, .val (.int .i64 li))]), (4, [(10, .look [0] (.d (.sl (bl.map C06.ivD))))])], G := [(63, gA (.d (.int .i64 cum))), (88, gA (.tup [.d (C11.sqD q), .d (C11.rpD r)])), (90, gA (.d (C08.rD rt1))), (91, gA (.d (C10.aD wa))), (72, gA (.d (C10.aD wl)))]}) (subs := []) (ws := []) (ρ := []) (by kernel_rfl) ?_
 have k0 := place63 s.sh.m s.sq.b x.a
 rw [show pPlc s.sh.m s.sq.b x.a = cum from hcum.symm] at k0
 repeat' (with_reducible first|exact ⟨⟩|apply And.intro|(first|apply zA|apply zB|apply zC|apply zD|apply zE|apply zF|apply zG)<;>intro)
 all_goals first | exact k0 | exact k1 | exact k2 | exact k3 | exact k4 | with_reducible rfl | (rename_i ha _; rw [if_pos ha] at k5; exact k5) | (rename_i ha _; rw [if_neg ha] at k5; exact k5) | exact hk | exact congrArg D.sl hk | exact congrArg (D.int .i64) hl.symm | exact dyes (by omega) | exact dno (by omega) | (refine congrArg D.bool ?_; rw [decide_eq_false_iff_not]; omega) | (exfalso; omega) | (rw [← hk] at k1; subst hl; exact k1) | skip
 all_goals (subst hz; first | rw [pRt_y (by assumption)] | rw [pRt_n (by assumption)])
 all_goals first | rw [pWn_l (by assumption)] | rw [pWn_a (by assumption) (by assumption)] | rw [pWn_n (by assumption) (by assumption)]
 all_goals (subst hl; rfl)
theorem acked61n (s s' : Pp) (x : C13.Sg) (bs : List (Int × Int)) (hk : x.k = bs.map bkD) (cum li : Int) (hcum : cum = pCum s x) (bl : List C06.Iv) (q : C11.Sq) (r : C11.Rp) (rt1 : C08.Rtt) (wa wl : C10.Aim) (hz : s' = { s with li := li, sq := q, rt := pRt s.rt rt1 r, wn := pWn s.wn wa wl r }) (k1 : FnOK Tryz.prog 89 [.ptr 0 0, .d (.sl (bs.map bkD)), .d (.int .i64 cum)] [ppB { s with li := li }] (.d (.sl (bl.map C06.ivD))) [ppB { s with li := li }]) (k2 : FnOK Tryz.prog 88 [.d (C11.sqD s.sq), .d (.int .i64 cum), .d (.sl (bl.map C06.ivD)), .d (.int .i64 s.no)] [] (.tup [.d (C11.sqD q), .d (C11.rpD r)]) []) (k3 : FnOK Tryz.prog 90 [.d (C08.rD s.rt), .d (.int .i64 r.s)] [] (.d (C08.rD rt1)) []) (k4 : FnOK Tryz.prog 91 [.d (C10.aD s.wn), .d (.int .i64 r.a)] [] (.d (C10.aD wa)) []) (k5 : FnOK Tryz.prog 72 [.d (C10.aD (if r.a > 0 then wa else s.wn))] [] (.d (C10.aD wl)) []) (h : ¬s.sq.b ≤ cum) (hl : li = s.li) : FnOK Tryz.prog 61 ([.ptr 0 0, .d (C13.sgD x)]) ([ppB s]) (.tup []) ([ppB s']) := by
 refine fnOK_wp (p := (FnOK Tryz.prog 63 [vW s.sh.m, vI s.sq.b, vW x.a] [] (vI cum) []) ∧ (D.bool (decide (s.sq.b ≤ cum)) = D.bool false) ∧ (FnOK Tryz.prog 89 [AV.ptr 0 0, vL x.k, vI cum] [ppB s] (vL (List.map C06.ivD bl)) [ppB s]) ∧ (FnOK Tryz.prog 88 [AV.d (C11.sqD s.sq), vI cum, vL (List.map C06.ivD bl), vI s.no] [] (AV.tup [AV.d (C11.sqD q), AV.d (.agg [D.int .i64 r.a, D.int .i64 r.s, D.bool r.l])]) []) ∧ (condP (decide (r.s ≥ (0 : Int))) ((FnOK Tryz.prog 90 [AV.d (C08.rD s.rt), vI r.s] [] (AV.d (C08.rD rt1)) []) ∧ (condP (decide (r.a > (0 : Int))) ((FnOK Tryz.prog 91 [AV.d (C10.aD s.wn), vI r.a] [] (AV.d (C10.aD wa)) []) ∧ (condP (r.l) ((FnOK Tryz.prog 72 [AV.d (C10.aD wa)] [] (AV.d (C10.aD wl)) []) ∧ (rf (AV.tup [])) ∧ (pxB s.sh.g s.sh.p s.sh.e s.sh.m s.sh.h q.b q.d q.n q.fl q.cm s.rq.b s.rq.r s.rq.p rt1.s rt1.v rt1.k rt1.h wl.w wl.t wl.p s.li s.no s.he s.nx s.pr s.du = ppB s') ∧ True) ((rf (AV.tup [])) ∧ (pxB s.sh.g s.sh.p s.sh.e s.sh.m s.sh.h q.b q.d q.n q.fl q.cm s.rq.b s.rq.r s.rq.p rt1.s rt1.v rt1.k rt1.h wa.w wa.t wa.p s.li s.no s.he s.nx s.pr s.du = ppB s') ∧ True))) (condP (r.l) ((FnOK Tryz.prog 72 [AV.d (C10.aD s.wn)] [] (AV.d (C10.aD wl)) []) ∧ (rf (AV.tup [])) ∧ (pxB s.sh.g s.sh.p s.sh.e s.sh.m s.sh.h q.b q.d q.n q.fl q.cm s.rq.b s.rq.r s.rq.p rt1.s rt1.v rt1.k rt1.h wl.w wl.t wl.p s.li s.no s.he s.nx s.pr s.du = ppB s') ∧ True) ((rf (AV.tup [])) ∧ (pxB s.sh.g s.sh.p s.sh.e s.sh.m s.sh.h q.b q.d q.n q.fl q.cm s.rq.b s.rq.r s.rq.p rt1.s rt1.v rt1.k rt1.h s.wn.w s.wn.t s.wn.p s.li s.no s.he s.nx s.pr s.du = ppB s') ∧ True)))) (condP (decide (r.a > (0 : Int))) ((FnOK Tryz.prog 91 [AV.d (C10.aD s.wn), vI r.a] [] (AV.d (C10.aD wa)) []) ∧ (condP (r.l) ((FnOK Tryz.prog 72 [AV.d (C10.aD wa)] [] (AV.d (C10.aD wl)) []) ∧ (rf (AV.tup [])) ∧ (ppB { s with sq := q, wn := wl } = ppB s') ∧ True) ((rf (AV.tup [])) ∧ (ppB { s with sq := q, wn := wa } = ppB s') ∧ True))) (condP (r.l) ((FnOK Tryz.prog 72 [AV.d (C10.aD s.wn)] [] (AV.d (C10.aD wl)) []) ∧ (rf (AV.tup [])) ∧ (ppB { s with sq := q, wn := wl } = ppB s') ∧ True) ((rf (AV.tup [])) ∧ (ppB { s with sq := q } = ppB s') ∧ True))))) (h := {H := [(2, [(8, .val (.bool false))]), (4, [(10, .look [0] (.d (.sl (bl.map C06.ivD))))])], G := [(63, gA (.d (.int .i64 cum))), (88, gA (.tup [.d (C11.sqD q), .d (C11.rpD r)])), (90, gA (.d (C08.rD rt1))), (91, gA (.d (C10.aD wa))), (72, gA (.d (C10.aD wl)))]}) (subs := []) (ws := []) (ρ := []) (by kernel_rfl) ?_
 have k0 := place63 s.sh.m s.sq.b x.a
 rw [show pPlc s.sh.m s.sq.b x.a = cum from hcum.symm] at k0
 repeat' (with_reducible first|exact ⟨⟩|apply And.intro|(first|apply zA|apply zB|apply zC|apply zD|apply zE|apply zF|apply zG)<;>intro)
 all_goals first | exact k0 | exact k1 | exact k2 | exact k3 | exact k4 | with_reducible rfl | (rename_i ha _; rw [if_pos ha] at k5; exact k5) | (rename_i ha _; rw [if_neg ha] at k5; exact k5) | exact hk | exact congrArg D.sl hk | exact congrArg (D.int .i64) hl.symm | exact dyes (by omega) | exact dno (by omega) | (refine congrArg D.bool ?_; rw [decide_eq_false_iff_not]; omega) | (exfalso; omega) | (rw [← hk] at k1; subst hl; exact k1) | skip
 all_goals (subst hz; first | rw [pRt_y (by assumption)] | rw [pRt_n (by assumption)])
 all_goals first | rw [pWn_l (by assumption)] | rw [pWn_a (by assumption) (by assumption)] | rw [pWn_n (by assumption) (by assumption)]
 all_goals (subst hl; rfl)
theorem acked61m (s s' : Pp) (x : C13.Sg) (bs : List (Int × Int)) (hk : x.k = bs.map bkD) (cum li : Int) (hcum : cum = pCum s x) (bl : List C06.Iv) (q : C11.Sq) (r : C11.Rp) (rt1 : C08.Rtt) (wa wl : C10.Aim) (hz : s' = { s with li := li, sq := q, rt := pRt s.rt rt1 r, wn := pWn s.wn wa wl r }) (k1 : FnOK Tryz.prog 89 [.ptr 0 0, .d (.sl (bs.map bkD)), .d (.int .i64 cum)] [ppB { s with li := li }] (.d (.sl (bl.map C06.ivD))) [ppB { s with li := li }]) (k2 : FnOK Tryz.prog 88 [.d (C11.sqD s.sq), .d (.int .i64 cum), .d (.sl (bl.map C06.ivD)), .d (.int .i64 s.no)] [] (.tup [.d (C11.sqD q), .d (C11.rpD r)]) []) (k3 : FnOK Tryz.prog 90 [.d (C08.rD s.rt), .d (.int .i64 r.s)] [] (.d (C08.rD rt1)) []) (k4 : FnOK Tryz.prog 91 [.d (C10.aD s.wn), .d (.int .i64 r.a)] [] (.d (C10.aD wa)) []) (k5 : FnOK Tryz.prog 72 [.d (C10.aD (if r.a > 0 then wa else s.wn))] [] (.d (C10.aD wl)) []) (h : s.sq.b ≤ cum ∧ ¬cum ≤ s.sq.n) (hl : li = s.li) : FnOK Tryz.prog 61 ([.ptr 0 0, .d (C13.sgD x)]) ([ppB s]) (.tup []) ([ppB s']) := by
 refine fnOK_wp (p := (FnOK Tryz.prog 63 [vW s.sh.m, vI s.sq.b, vW x.a] [] (vI cum) []) ∧ (D.bool (decide (s.sq.b ≤ cum)) = D.bool true) ∧ (D.bool (decide (cum ≤ s.sq.n)) = D.bool false) ∧ (FnOK Tryz.prog 89 [AV.ptr 0 0, vL x.k, vI cum] [ppB s] (vL (List.map C06.ivD bl)) [ppB s]) ∧ (FnOK Tryz.prog 88 [AV.d (C11.sqD s.sq), vI cum, vL (List.map C06.ivD bl), vI s.no] [] (AV.tup [AV.d (C11.sqD q), AV.d (.agg [D.int .i64 r.a, D.int .i64 r.s, D.bool r.l])]) []) ∧ (condP (decide (r.s ≥ (0 : Int))) ((FnOK Tryz.prog 90 [AV.d (C08.rD s.rt), vI r.s] [] (AV.d (C08.rD rt1)) []) ∧ (condP (decide (r.a > (0 : Int))) ((FnOK Tryz.prog 91 [AV.d (C10.aD s.wn), vI r.a] [] (AV.d (C10.aD wa)) []) ∧ (condP (r.l) ((FnOK Tryz.prog 72 [AV.d (C10.aD wa)] [] (AV.d (C10.aD wl)) []) ∧ (rf (AV.tup [])) ∧ (pxB s.sh.g s.sh.p s.sh.e s.sh.m s.sh.h q.b q.d q.n q.fl q.cm s.rq.b s.rq.r s.rq.p rt1.s rt1.v rt1.k rt1.h wl.w wl.t wl.p s.li s.no s.he s.nx s.pr s.du = ppB s') ∧ True) ((rf (AV.tup [])) ∧ (pxB s.sh.g s.sh.p s.sh.e s.sh.m s.sh.h q.b q.d q.n q.fl q.cm s.rq.b s.rq.r s.rq.p rt1.s rt1.v rt1.k rt1.h wa.w wa.t wa.p s.li s.no s.he s.nx s.pr s.du = ppB s') ∧ True))) (condP (r.l) ((FnOK Tryz.prog 72 [AV.d (C10.aD s.wn)] [] (AV.d (C10.aD wl)) []) ∧ (rf (AV.tup [])) ∧ (pxB s.sh.g s.sh.p s.sh.e s.sh.m s.sh.h q.b q.d q.n q.fl q.cm s.rq.b s.rq.r s.rq.p rt1.s rt1.v rt1.k rt1.h wl.w wl.t wl.p s.li s.no s.he s.nx s.pr s.du = ppB s') ∧ True) ((rf (AV.tup [])) ∧ (pxB s.sh.g s.sh.p s.sh.e s.sh.m s.sh.h q.b q.d q.n q.fl q.cm s.rq.b s.rq.r s.rq.p rt1.s rt1.v rt1.k rt1.h s.wn.w s.wn.t s.wn.p s.li s.no s.he s.nx s.pr s.du = ppB s') ∧ True)))) (condP (decide (r.a > (0 : Int))) ((FnOK Tryz.prog 91 [AV.d (C10.aD s.wn), vI r.a] [] (AV.d (C10.aD wa)) []) ∧ (condP (r.l) ((FnOK Tryz.prog 72 [AV.d (C10.aD wa)] [] (AV.d (C10.aD wl)) []) ∧ (rf (AV.tup [])) ∧ (ppB { s with sq := q, wn := wl } = ppB s') ∧ True) ((rf (AV.tup [])) ∧ (ppB { s with sq := q, wn := wa } = ppB s') ∧ True))) (condP (r.l) ((FnOK Tryz.prog 72 [AV.d (C10.aD s.wn)] [] (AV.d (C10.aD wl)) []) ∧ (rf (AV.tup [])) ∧ (ppB { s with sq := q, wn := wl } = ppB s') ∧ True) ((rf (AV.tup [])) ∧ (ppB { s with sq := q } = ppB s') ∧ True))))) (h := {H := [(2, [(8, .val (.bool true)), (17, .val (.bool false))]), (4, [(10, .look [0] (.d (.sl (bl.map C06.ivD))))])], G := [(63, gA (.d (.int .i64 cum))), (88, gA (.tup [.d (C11.sqD q), .d (C11.rpD r)])), (90, gA (.d (C08.rD rt1))), (91, gA (.d (C10.aD wa))), (72, gA (.d (C10.aD wl)))]}) (subs := []) (ws := []) (ρ := []) (by kernel_rfl) ?_
 have k0 := place63 s.sh.m s.sq.b x.a
 rw [show pPlc s.sh.m s.sq.b x.a = cum from hcum.symm] at k0
 repeat' (with_reducible first|exact ⟨⟩|apply And.intro|(first|apply zA|apply zB|apply zC|apply zD|apply zE|apply zF|apply zG)<;>intro)
 all_goals first | exact k0 | exact k1 | exact k2 | exact k3 | exact k4 | with_reducible rfl | (rename_i ha _; rw [if_pos ha] at k5; exact k5) | (rename_i ha _; rw [if_neg ha] at k5; exact k5) | exact hk | exact congrArg D.sl hk | exact congrArg (D.int .i64) hl.symm | exact dyes (by omega) | exact dno (by omega) | (refine congrArg D.bool ?_; rw [decide_eq_false_iff_not]; omega) | (exfalso; omega) | (rw [← hk] at k1; subst hl; exact k1) | skip
 all_goals (subst hz; first | rw [pRt_y (by assumption)] | rw [pRt_n (by assumption)])
 all_goals first | rw [pWn_l (by assumption)] | rw [pWn_a (by assumption) (by assumption)] | rw [pWn_n (by assumption) (by assumption)]
 all_goals (subst hl; rfl)
theorem tookA1 (s s1 : Pp) (x : C13.Sg) (b2 b16 : Bool) (q : C12.Rq) (n : Int) (h1 : C13.hasB x.f 1 = false) (h2 : C13.hasB x.f 2 = true) (h16 : C13.hasB x.f 16 = b16) (k1 : FnOK Tryz.prog 61 [.ptr 0 0, .d (C13.sgD x)] [ppB s] (.tup []) [ppB s1]) (ht : x.t ≠ []) (k6 : FnOK Tryz.prog 62 [.d (C12.rqD s1.rq), .d (.int .i64 (pPlc s1.sh.h s1.rq.b x.q)), .d (.str x.t)] [] (.tup [.d (C12.rqD q), .d (.int .i64 n)]) []) : FnOK Tryz.prog 32 ([.ptr 0 0, .d (C13.sgD x)]) ([ppB s]) (.tup []) ([ppB (TK s1 q true)]) := by
 refine fnOK_wp (p := (FnOK Tryz.prog 57 [AV.d (C13.sgD x), vU 1] [] (vB false) []) ∧ (FnOK Tryz.prog 57 [AV.d (C13.sgD x), vU 2] [] (vB true) []) ∧ (rf (D.bool true)) ∧ (FnOK Tryz.prog 61 [AV.ptr 0 0, AV.d (C13.sgD x)] [ppB s] (AV.tup []) [ppB s1]) ∧ ((D.bool !x.t == []) = D.bool true) ∧ (FnOK Tryz.prog 63 [vW s1.sh.h, vI s1.rq.b, vW x.q] [] (vI (pPlc s1.sh.h s1.rq.b x.q)) []) ∧ (FnOK Tryz.prog 62 [AV.d (C12.rqD s1.rq), vI (pPlc s1.sh.h s1.rq.b x.q), vS x.t] [] (AV.tup [AV.d (C12.rqD q), vI n]) []) ∧ (rf (D.bool false)) ∧ ((D.bool !x.t == []) = D.bool true) ∧ (rf (D.bool true)) ∧ (rf (AV.tup [])) ∧ (ppB { s1 with rq := q, du := true } = Ob.box [vU (TK s1 q true).sh.g, vI (TK s1 q true).sh.p, vI (TK s1 q true).sh.e, vW (TK s1 q true).sh.m, vW (TK s1 q true).sh.h, vI (TK s1 q true).sq.b, vS (TK s1 q true).sq.d, vI (TK s1 q true).sq.n, vL (List.map C11.ckD (TK s1 q true).sq.fl), vL (List.map C06.ivD (TK s1 q true).sq.cm), vI (TK s1 q true).rq.b, vS (TK s1 q true).rq.r, vL (List.map C12.ptD (TK s1 q true).rq.p), vI (TK s1 q true).rt.s, vI (TK s1 q true).rt.v, vB (TK s1 q true).rt.k, vI (TK s1 q true).rt.h, vI (TK s1 q true).wn.w, vI (TK s1 q true).wn.t, vI (TK s1 q true).wn.p, vI (TK s1 q true).li, vI (TK s1 q true).no, vI (TK s1 q true).he, vI (TK s1 q true).nx, vI (TK s1 q true).pr, vB true]) ∧ True) (h := {H := [(1, [(1, .call [] (.d (.bool false)) [])]), (2, [(1, .call [] (.d (.bool true)) [])]), (3, [(2, .call [0] (.tup []) [ppB s1])]), (4, [(2, .val (.bool true))]), (6, [(4, .val (.bool true)), (8, .call [] (.d (.bool b16)) [])])], G := [(63, gPlc), (62, gA (.tup [.d (C12.rqD q), .d (.int .i64 n)]))]}) (subs := []) (ws := []) (ρ := []) (by kernel_rfl) ?_
 have a1 := C13.has28 x 1
 have a2 := C13.has28 x 2
 have a16 := C13.has28 x 16
 rw [h1] at a1
 rw [h2] at a2
 rw [h16] at a16
 repeat' (with_reducible first|exact ⟨⟩|apply And.intro|(first|apply zA|apply zB|apply zC|apply zD|apply zE|apply zF|apply zG)<;>intro)
 all_goals first | exact a1 | exact a2 | exact a16 | exact k1 | exact k6 | exact place63 _ _ _ | rfl | exact dyes ht | exact dno (by simp [ht]) | (refine congrArg D.bool ?_; simp [*]; done) | (cases b16 <;> first | rfl | contradiction) | (exfalso; simp_all; done) | skip
theorem tookA0 (s s1 : Pp) (x : C13.Sg) (b2 b16 : Bool) (q : C12.Rq) (n : Int) (h1 : C13.hasB x.f 1 = false) (h2 : C13.hasB x.f 2 = true) (h16 : C13.hasB x.f 16 = b16) (k1 : FnOK Tryz.prog 61 [.ptr 0 0, .d (C13.sgD x)] [ppB s] (.tup []) [ppB s1]) (ht : x.t = []) (k6 : True) : FnOK Tryz.prog 32 ([.ptr 0 0, .d (C13.sgD x)]) ([ppB s]) (.tup []) ([ppB (TK s1 s1.rq (b16 || s1.du))]) := by
 refine fnOK_wp (p := (FnOK Tryz.prog 57 [AV.d (C13.sgD x), vU 1] [] (vB false) []) ∧ (FnOK Tryz.prog 57 [AV.d (C13.sgD x), vU 2] [] (vB true) []) ∧ (rf (D.bool true)) ∧ (FnOK Tryz.prog 61 [AV.ptr 0 0, AV.d (C13.sgD x)] [ppB s] (AV.tup []) [ppB s1]) ∧ ((D.bool !x.t == []) = D.bool false) ∧ (rf (D.bool false)) ∧ ((D.bool !x.t == []) = D.bool false) ∧ (rf (D.bool false)) ∧ (FnOK Tryz.prog 57 [AV.d (C13.sgD x), vU 16] [] (vB b16) []) ∧ (condP (b16) ((rf (AV.tup [])) ∧ (ppB { s1 with du := true } = Ob.box [vU (TK s1 s1.rq (b16 || s1.du)).sh.g, vI (TK s1 s1.rq (b16 || s1.du)).sh.p, vI (TK s1 s1.rq (b16 || s1.du)).sh.e, vW (TK s1 s1.rq (b16 || s1.du)).sh.m, vW (TK s1 s1.rq (b16 || s1.du)).sh.h, vI (TK s1 s1.rq (b16 || s1.du)).sq.b, vS (TK s1 s1.rq (b16 || s1.du)).sq.d, vI (TK s1 s1.rq (b16 || s1.du)).sq.n, vL (List.map C11.ckD (TK s1 s1.rq (b16 || s1.du)).sq.fl), vL (List.map C06.ivD (TK s1 s1.rq (b16 || s1.du)).sq.cm), vI (TK s1 s1.rq (b16 || s1.du)).rq.b, vS (TK s1 s1.rq (b16 || s1.du)).rq.r, vL (List.map C12.ptD (TK s1 s1.rq (b16 || s1.du)).rq.p), vI (TK s1 s1.rq (b16 || s1.du)).rt.s, vI (TK s1 s1.rq (b16 || s1.du)).rt.v, vB (TK s1 s1.rq (b16 || s1.du)).rt.k, vI (TK s1 s1.rq (b16 || s1.du)).rt.h, vI (TK s1 s1.rq (b16 || s1.du)).wn.w, vI (TK s1 s1.rq (b16 || s1.du)).wn.t, vI (TK s1 s1.rq (b16 || s1.du)).wn.p, vI (TK s1 s1.rq (b16 || s1.du)).li, vI (TK s1 s1.rq (b16 || s1.du)).no, vI (TK s1 s1.rq (b16 || s1.du)).he, vI (TK s1 s1.rq (b16 || s1.du)).nx, vI (TK s1 s1.rq (b16 || s1.du)).pr, vB (TK s1 s1.rq (b16 || s1.du)).du]) ∧ True) ((rf (AV.tup [])) ∧ (ppB s1 = Ob.box [vU (TK s1 s1.rq (b16 || s1.du)).sh.g, vI (TK s1 s1.rq (b16 || s1.du)).sh.p, vI (TK s1 s1.rq (b16 || s1.du)).sh.e, vW (TK s1 s1.rq (b16 || s1.du)).sh.m, vW (TK s1 s1.rq (b16 || s1.du)).sh.h, vI (TK s1 s1.rq (b16 || s1.du)).sq.b, vS (TK s1 s1.rq (b16 || s1.du)).sq.d, vI (TK s1 s1.rq (b16 || s1.du)).sq.n, vL (List.map C11.ckD (TK s1 s1.rq (b16 || s1.du)).sq.fl), vL (List.map C06.ivD (TK s1 s1.rq (b16 || s1.du)).sq.cm), vI (TK s1 s1.rq (b16 || s1.du)).rq.b, vS (TK s1 s1.rq (b16 || s1.du)).rq.r, vL (List.map C12.ptD (TK s1 s1.rq (b16 || s1.du)).rq.p), vI (TK s1 s1.rq (b16 || s1.du)).rt.s, vI (TK s1 s1.rq (b16 || s1.du)).rt.v, vB (TK s1 s1.rq (b16 || s1.du)).rt.k, vI (TK s1 s1.rq (b16 || s1.du)).rt.h, vI (TK s1 s1.rq (b16 || s1.du)).wn.w, vI (TK s1 s1.rq (b16 || s1.du)).wn.t, vI (TK s1 s1.rq (b16 || s1.du)).wn.p, vI (TK s1 s1.rq (b16 || s1.du)).li, vI (TK s1 s1.rq (b16 || s1.du)).no, vI (TK s1 s1.rq (b16 || s1.du)).he, vI (TK s1 s1.rq (b16 || s1.du)).nx, vI (TK s1 s1.rq (b16 || s1.du)).pr, vB (TK s1 s1.rq (b16 || s1.du)).du]) ∧ True))) (h := {H := [(1, [(1, .call [] (.d (.bool false)) [])]), (2, [(1, .call [] (.d (.bool true)) [])]), (3, [(2, .call [0] (.tup []) [ppB s1])]), (4, [(2, .val (.bool false))]), (6, [(4, .val (.bool false)), (8, .call [] (.d (.bool b16)) [])])], G := [(63, gPlc), (62, gA (.tup [.d (C12.rqD q), .d (.int .i64 n)]))]}) (subs := []) (ws := []) (ρ := []) (by kernel_rfl) ?_
 have a1 := C13.has28 x 1
 have a2 := C13.has28 x 2
 have a16 := C13.has28 x 16
 rw [h1] at a1
 rw [h2] at a2
 rw [h16] at a16
 repeat' (with_reducible first|exact ⟨⟩|apply And.intro|(first|apply zA|apply zB|apply zC|apply zD|apply zE|apply zF|apply zG)<;>intro)
 all_goals first | exact a1 | exact a2 | exact a16 | exact k1 | exact k6 | exact place63 _ _ _ | rfl | exact dyes ht | exact dno (by simp [ht]) | (refine congrArg D.bool ?_; simp [*]; done) | (cases b16 <;> first | rfl | contradiction) | (exfalso; simp_all; done) | skip
theorem tookB1 (s s1 : Pp) (x : C13.Sg) (b2 b16 : Bool) (q : C12.Rq) (n : Int) (h1 : C13.hasB x.f 1 = true) (h2 : C13.hasB x.f 2 = b2) (h16 : C13.hasB x.f 16 = b16) (k1 : s1 = s) (ht : x.t ≠ []) (k6 : FnOK Tryz.prog 62 [.d (C12.rqD s1.rq), .d (.int .i64 (pPlc s1.sh.h s1.rq.b x.q)), .d (.str x.t)] [] (.tup [.d (C12.rqD q), .d (.int .i64 n)]) []) : FnOK Tryz.prog 32 ([.ptr 0 0, .d (C13.sgD x)]) ([ppB s]) (.tup []) ([ppB (TK s1 q true)]) := by
 refine fnOK_wp (p := (FnOK Tryz.prog 57 [AV.d (C13.sgD x), vU 1] [] (vB true) []) ∧ (condP (b2) ((FnOK Tryz.prog 57 [AV.d (C13.sgD x), vU 2] [] (vB b2) []) ∧ (D.bool b2 = D.bool true) ∧ (rf (D.bool false)) ∧ ((D.bool !x.t == []) = D.bool true) ∧ (FnOK Tryz.prog 63 [vW s.sh.h, vI s.rq.b, vW x.q] [] (vI (pPlc s.sh.h s.rq.b x.q)) []) ∧ (FnOK Tryz.prog 62 [AV.d (C12.rqD s.rq), vI (pPlc s.sh.h s.rq.b x.q), vS x.t] [] (AV.tup [AV.d (C12.rqD q), vI n]) []) ∧ (rf (D.bool true)) ∧ (rf (D.bool true)) ∧ (rf (AV.tup [])) ∧ (ppB { s with rq := q, du := true } = Ob.box [vU (TK s1 q true).sh.g, vI (TK s1 q true).sh.p, vI (TK s1 q true).sh.e, vW (TK s1 q true).sh.m, vW (TK s1 q true).sh.h, vI (TK s1 q true).sq.b, vS (TK s1 q true).sq.d, vI (TK s1 q true).sq.n, vL (List.map C11.ckD (TK s1 q true).sq.fl), vL (List.map C06.ivD (TK s1 q true).sq.cm), vI (TK s1 q true).rq.b, vS (TK s1 q true).rq.r, vL (List.map C12.ptD (TK s1 q true).rq.p), vI (TK s1 q true).rt.s, vI (TK s1 q true).rt.v, vB (TK s1 q true).rt.k, vI (TK s1 q true).rt.h, vI (TK s1 q true).wn.w, vI (TK s1 q true).wn.t, vI (TK s1 q true).wn.p, vI (TK s1 q true).li, vI (TK s1 q true).no, vI (TK s1 q true).he, vI (TK s1 q true).nx, vI (TK s1 q true).pr, vB true]) ∧ True) ((FnOK Tryz.prog 57 [AV.d (C13.sgD x), vU 2] [] (vB b2) []) ∧ (D.bool b2 = D.bool false) ∧ (rf (D.bool false)) ∧ ((D.bool !x.t == []) = D.bool true) ∧ (FnOK Tryz.prog 63 [vW s.sh.h, vI s.rq.b, vW x.q] [] (vI (pPlc s.sh.h s.rq.b x.q)) []) ∧ (FnOK Tryz.prog 62 [AV.d (C12.rqD s.rq), vI (pPlc s.sh.h s.rq.b x.q), vS x.t] [] (AV.tup [AV.d (C12.rqD q), vI n]) []) ∧ (rf (D.bool true)) ∧ (rf (D.bool true)) ∧ (rf (AV.tup [])) ∧ (ppB { s with rq := q, du := true } = Ob.box [vU (TK s1 q true).sh.g, vI (TK s1 q true).sh.p, vI (TK s1 q true).sh.e, vW (TK s1 q true).sh.m, vW (TK s1 q true).sh.h, vI (TK s1 q true).sq.b, vS (TK s1 q true).sq.d, vI (TK s1 q true).sq.n, vL (List.map C11.ckD (TK s1 q true).sq.fl), vL (List.map C06.ivD (TK s1 q true).sq.cm), vI (TK s1 q true).rq.b, vS (TK s1 q true).rq.r, vL (List.map C12.ptD (TK s1 q true).rq.p), vI (TK s1 q true).rt.s, vI (TK s1 q true).rt.v, vB (TK s1 q true).rt.k, vI (TK s1 q true).rt.h, vI (TK s1 q true).wn.w, vI (TK s1 q true).wn.t, vI (TK s1 q true).wn.p, vI (TK s1 q true).li, vI (TK s1 q true).no, vI (TK s1 q true).he, vI (TK s1 q true).nx, vI (TK s1 q true).pr, vB true]) ∧ True))) (h := {H := [(1, [(1, .call [] (.d (.bool true)) [])]), (2, [(1, .call [] (.d (.bool b2)) []), (5, .val (.bool false))]), (4, [(2, .val (.bool true))]), (6, [(8, .call [] (.d (.bool b16)) [])])], G := [(63, gPlc), (62, gA (.tup [.d (C12.rqD q), .d (.int .i64 n)]))]}) (subs := []) (ws := []) (ρ := []) (by kernel_rfl) ?_
 subst k1
 have a1 := C13.has28 x 1
 have a2 := C13.has28 x 2
 have a16 := C13.has28 x 16
 rw [h1] at a1
 rw [h2] at a2
 rw [h16] at a16
 repeat' (with_reducible first|exact ⟨⟩|apply And.intro|(first|apply zA|apply zB|apply zC|apply zD|apply zE|apply zF|apply zG)<;>intro)
 all_goals first | exact a1 | exact a2 | exact a16 | exact k1 | exact k6 | exact place63 _ _ _ | rfl | exact dyes ht | exact dno (by simp [ht]) | (refine congrArg D.bool ?_; simp [*]; done) | (cases b16 <;> first | rfl | contradiction) | (exfalso; simp_all; done) | skip
theorem tookB0 (s s1 : Pp) (x : C13.Sg) (b2 b16 : Bool) (q : C12.Rq) (n : Int) (h1 : C13.hasB x.f 1 = true) (h2 : C13.hasB x.f 2 = b2) (h16 : C13.hasB x.f 16 = b16) (k1 : s1 = s) (ht : x.t = []) (k6 : True) : FnOK Tryz.prog 32 ([.ptr 0 0, .d (C13.sgD x)]) ([ppB s]) (.tup []) ([ppB (TK s1 s1.rq true)]) := by
 refine fnOK_wp (p := (FnOK Tryz.prog 57 [AV.d (C13.sgD x), vU 1] [] (vB true) []) ∧ (condP (b2) ((FnOK Tryz.prog 57 [AV.d (C13.sgD x), vU 2] [] (vB b2) []) ∧ (D.bool b2 = D.bool true) ∧ (rf (D.bool false)) ∧ ((D.bool !x.t == []) = D.bool false) ∧ (rf (D.bool true)) ∧ (rf (D.bool true)) ∧ (rf (AV.tup [])) ∧ (ppB { s with du := true } = Ob.box [vU (TK s1 s1.rq true).sh.g, vI (TK s1 s1.rq true).sh.p, vI (TK s1 s1.rq true).sh.e, vW (TK s1 s1.rq true).sh.m, vW (TK s1 s1.rq true).sh.h, vI (TK s1 s1.rq true).sq.b, vS (TK s1 s1.rq true).sq.d, vI (TK s1 s1.rq true).sq.n, vL (List.map C11.ckD (TK s1 s1.rq true).sq.fl), vL (List.map C06.ivD (TK s1 s1.rq true).sq.cm), vI (TK s1 s1.rq true).rq.b, vS (TK s1 s1.rq true).rq.r, vL (List.map C12.ptD (TK s1 s1.rq true).rq.p), vI (TK s1 s1.rq true).rt.s, vI (TK s1 s1.rq true).rt.v, vB (TK s1 s1.rq true).rt.k, vI (TK s1 s1.rq true).rt.h, vI (TK s1 s1.rq true).wn.w, vI (TK s1 s1.rq true).wn.t, vI (TK s1 s1.rq true).wn.p, vI (TK s1 s1.rq true).li, vI (TK s1 s1.rq true).no, vI (TK s1 s1.rq true).he, vI (TK s1 s1.rq true).nx, vI (TK s1 s1.rq true).pr, vB true]) ∧ True) ((FnOK Tryz.prog 57 [AV.d (C13.sgD x), vU 2] [] (vB b2) []) ∧ (D.bool b2 = D.bool false) ∧ (rf (D.bool false)) ∧ ((D.bool !x.t == []) = D.bool false) ∧ (rf (D.bool true)) ∧ (rf (D.bool true)) ∧ (rf (AV.tup [])) ∧ (ppB { s with du := true } = Ob.box [vU (TK s1 s1.rq true).sh.g, vI (TK s1 s1.rq true).sh.p, vI (TK s1 s1.rq true).sh.e, vW (TK s1 s1.rq true).sh.m, vW (TK s1 s1.rq true).sh.h, vI (TK s1 s1.rq true).sq.b, vS (TK s1 s1.rq true).sq.d, vI (TK s1 s1.rq true).sq.n, vL (List.map C11.ckD (TK s1 s1.rq true).sq.fl), vL (List.map C06.ivD (TK s1 s1.rq true).sq.cm), vI (TK s1 s1.rq true).rq.b, vS (TK s1 s1.rq true).rq.r, vL (List.map C12.ptD (TK s1 s1.rq true).rq.p), vI (TK s1 s1.rq true).rt.s, vI (TK s1 s1.rq true).rt.v, vB (TK s1 s1.rq true).rt.k, vI (TK s1 s1.rq true).rt.h, vI (TK s1 s1.rq true).wn.w, vI (TK s1 s1.rq true).wn.t, vI (TK s1 s1.rq true).wn.p, vI (TK s1 s1.rq true).li, vI (TK s1 s1.rq true).no, vI (TK s1 s1.rq true).he, vI (TK s1 s1.rq true).nx, vI (TK s1 s1.rq true).pr, vB true]) ∧ True))) (h := {H := [(1, [(1, .call [] (.d (.bool true)) [])]), (2, [(1, .call [] (.d (.bool b2)) []), (5, .val (.bool false))]), (4, [(2, .val (.bool false))]), (6, [(8, .call [] (.d (.bool b16)) [])])], G := [(63, gPlc), (62, gA (.tup [.d (C12.rqD q), .d (.int .i64 n)]))]}) (subs := []) (ws := []) (ρ := []) (by kernel_rfl) ?_
 subst k1
 have a1 := C13.has28 x 1
 have a2 := C13.has28 x 2
 have a16 := C13.has28 x 16
 rw [h1] at a1
 rw [h2] at a2
 rw [h16] at a16
 repeat' (with_reducible first|exact ⟨⟩|apply And.intro|(first|apply zA|apply zB|apply zC|apply zD|apply zE|apply zF|apply zG)<;>intro)
 all_goals first | exact a1 | exact a2 | exact a16 | exact k1 | exact k6 | exact place63 _ _ _ | rfl | exact dyes ht | exact dno (by simp [ht]) | (refine congrArg D.bool ?_; simp [*]; done) | (cases b16 <;> first | rfl | contradiction) | (exfalso; simp_all; done) | skip
theorem tookC1 (s s1 : Pp) (x : C13.Sg) (b2 b16 : Bool) (q : C12.Rq) (n : Int) (h1 : C13.hasB x.f 1 = false) (h2 : C13.hasB x.f 2 = false) (h16 : C13.hasB x.f 16 = b16) (k1 : s1 = s) (ht : x.t ≠ []) (k6 : FnOK Tryz.prog 62 [.d (C12.rqD s1.rq), .d (.int .i64 (pPlc s1.sh.h s1.rq.b x.q)), .d (.str x.t)] [] (.tup [.d (C12.rqD q), .d (.int .i64 n)]) []) : FnOK Tryz.prog 32 ([.ptr 0 0, .d (C13.sgD x)]) ([ppB s]) (.tup []) ([ppB (TK s1 q true)]) := by
 refine fnOK_wp (p := (FnOK Tryz.prog 57 [AV.d (C13.sgD x), vU 1] [] (vB false) []) ∧ (FnOK Tryz.prog 57 [AV.d (C13.sgD x), vU 2] [] (vB false) []) ∧ (rf (D.bool false)) ∧ ((D.bool !x.t == []) = D.bool true) ∧ (FnOK Tryz.prog 63 [vW s.sh.h, vI s.rq.b, vW x.q] [] (vI (pPlc s.sh.h s.rq.b x.q)) []) ∧ (FnOK Tryz.prog 62 [AV.d (C12.rqD s.rq), vI (pPlc s.sh.h s.rq.b x.q), vS x.t] [] (AV.tup [AV.d (C12.rqD q), vI n]) []) ∧ (rf (D.bool false)) ∧ ((D.bool !x.t == []) = D.bool true) ∧ (rf (D.bool true)) ∧ (rf (AV.tup [])) ∧ (ppB { s with rq := q, du := true } = Ob.box [vU (TK s1 q true).sh.g, vI (TK s1 q true).sh.p, vI (TK s1 q true).sh.e, vW (TK s1 q true).sh.m, vW (TK s1 q true).sh.h, vI (TK s1 q true).sq.b, vS (TK s1 q true).sq.d, vI (TK s1 q true).sq.n, vL (List.map C11.ckD (TK s1 q true).sq.fl), vL (List.map C06.ivD (TK s1 q true).sq.cm), vI (TK s1 q true).rq.b, vS (TK s1 q true).rq.r, vL (List.map C12.ptD (TK s1 q true).rq.p), vI (TK s1 q true).rt.s, vI (TK s1 q true).rt.v, vB (TK s1 q true).rt.k, vI (TK s1 q true).rt.h, vI (TK s1 q true).wn.w, vI (TK s1 q true).wn.t, vI (TK s1 q true).wn.p, vI (TK s1 q true).li, vI (TK s1 q true).no, vI (TK s1 q true).he, vI (TK s1 q true).nx, vI (TK s1 q true).pr, vB true]) ∧ True) (h := {H := [(1, [(1, .call [] (.d (.bool false)) [])]), (2, [(1, .call [] (.d (.bool false)) [])]), (4, [(2, .val (.bool true))]), (6, [(4, .val (.bool true)), (8, .call [] (.d (.bool b16)) [])])], G := [(63, gPlc), (62, gA (.tup [.d (C12.rqD q), .d (.int .i64 n)]))]}) (subs := []) (ws := []) (ρ := []) (by kernel_rfl) ?_
 subst k1
 have a1 := C13.has28 x 1
 have a2 := C13.has28 x 2
 have a16 := C13.has28 x 16
 rw [h1] at a1
 rw [h2] at a2
 rw [h16] at a16
 repeat' (with_reducible first|exact ⟨⟩|apply And.intro|(first|apply zA|apply zB|apply zC|apply zD|apply zE|apply zF|apply zG)<;>intro)
 all_goals first | exact a1 | exact a2 | exact a16 | exact k1 | exact k6 | exact place63 _ _ _ | rfl | exact dyes ht | exact dno (by simp [ht]) | (refine congrArg D.bool ?_; simp [*]; done) | (cases b16 <;> first | rfl | contradiction) | (exfalso; simp_all; done) | skip
theorem tookC0 (s s1 : Pp) (x : C13.Sg) (b2 b16 : Bool) (q : C12.Rq) (n : Int) (h1 : C13.hasB x.f 1 = false) (h2 : C13.hasB x.f 2 = false) (h16 : C13.hasB x.f 16 = b16) (k1 : s1 = s) (ht : x.t = []) (k6 : True) : FnOK Tryz.prog 32 ([.ptr 0 0, .d (C13.sgD x)]) ([ppB s]) (.tup []) ([ppB (TK s1 s1.rq (b16 || s1.du))]) := by
 refine fnOK_wp (p := (FnOK Tryz.prog 57 [AV.d (C13.sgD x), vU 1] [] (vB false) []) ∧ (FnOK Tryz.prog 57 [AV.d (C13.sgD x), vU 2] [] (vB false) []) ∧ (rf (D.bool false)) ∧ ((D.bool !x.t == []) = D.bool false) ∧ (rf (D.bool false)) ∧ ((D.bool !x.t == []) = D.bool false) ∧ (rf (D.bool false)) ∧ (FnOK Tryz.prog 57 [AV.d (C13.sgD x), vU 16] [] (vB b16) []) ∧ (condP (b16) ((rf (AV.tup [])) ∧ (ppB { s with du := true } = Ob.box [vU (TK s1 s1.rq (b16 || s1.du)).sh.g, vI (TK s1 s1.rq (b16 || s1.du)).sh.p, vI (TK s1 s1.rq (b16 || s1.du)).sh.e, vW (TK s1 s1.rq (b16 || s1.du)).sh.m, vW (TK s1 s1.rq (b16 || s1.du)).sh.h, vI (TK s1 s1.rq (b16 || s1.du)).sq.b, vS (TK s1 s1.rq (b16 || s1.du)).sq.d, vI (TK s1 s1.rq (b16 || s1.du)).sq.n, vL (List.map C11.ckD (TK s1 s1.rq (b16 || s1.du)).sq.fl), vL (List.map C06.ivD (TK s1 s1.rq (b16 || s1.du)).sq.cm), vI (TK s1 s1.rq (b16 || s1.du)).rq.b, vS (TK s1 s1.rq (b16 || s1.du)).rq.r, vL (List.map C12.ptD (TK s1 s1.rq (b16 || s1.du)).rq.p), vI (TK s1 s1.rq (b16 || s1.du)).rt.s, vI (TK s1 s1.rq (b16 || s1.du)).rt.v, vB (TK s1 s1.rq (b16 || s1.du)).rt.k, vI (TK s1 s1.rq (b16 || s1.du)).rt.h, vI (TK s1 s1.rq (b16 || s1.du)).wn.w, vI (TK s1 s1.rq (b16 || s1.du)).wn.t, vI (TK s1 s1.rq (b16 || s1.du)).wn.p, vI (TK s1 s1.rq (b16 || s1.du)).li, vI (TK s1 s1.rq (b16 || s1.du)).no, vI (TK s1 s1.rq (b16 || s1.du)).he, vI (TK s1 s1.rq (b16 || s1.du)).nx, vI (TK s1 s1.rq (b16 || s1.du)).pr, vB (TK s1 s1.rq (b16 || s1.du)).du]) ∧ True) ((rf (AV.tup [])) ∧ (ppB s = Ob.box [vU (TK s1 s1.rq (b16 || s1.du)).sh.g, vI (TK s1 s1.rq (b16 || s1.du)).sh.p, vI (TK s1 s1.rq (b16 || s1.du)).sh.e, vW (TK s1 s1.rq (b16 || s1.du)).sh.m, vW (TK s1 s1.rq (b16 || s1.du)).sh.h, vI (TK s1 s1.rq (b16 || s1.du)).sq.b, vS (TK s1 s1.rq (b16 || s1.du)).sq.d, vI (TK s1 s1.rq (b16 || s1.du)).sq.n, vL (List.map C11.ckD (TK s1 s1.rq (b16 || s1.du)).sq.fl), vL (List.map C06.ivD (TK s1 s1.rq (b16 || s1.du)).sq.cm), vI (TK s1 s1.rq (b16 || s1.du)).rq.b, vS (TK s1 s1.rq (b16 || s1.du)).rq.r, vL (List.map C12.ptD (TK s1 s1.rq (b16 || s1.du)).rq.p), vI (TK s1 s1.rq (b16 || s1.du)).rt.s, vI (TK s1 s1.rq (b16 || s1.du)).rt.v, vB (TK s1 s1.rq (b16 || s1.du)).rt.k, vI (TK s1 s1.rq (b16 || s1.du)).rt.h, vI (TK s1 s1.rq (b16 || s1.du)).wn.w, vI (TK s1 s1.rq (b16 || s1.du)).wn.t, vI (TK s1 s1.rq (b16 || s1.du)).wn.p, vI (TK s1 s1.rq (b16 || s1.du)).li, vI (TK s1 s1.rq (b16 || s1.du)).no, vI (TK s1 s1.rq (b16 || s1.du)).he, vI (TK s1 s1.rq (b16 || s1.du)).nx, vI (TK s1 s1.rq (b16 || s1.du)).pr, vB (TK s1 s1.rq (b16 || s1.du)).du]) ∧ True))) (h := {H := [(1, [(1, .call [] (.d (.bool false)) [])]), (2, [(1, .call [] (.d (.bool false)) [])]), (4, [(2, .val (.bool false))]), (6, [(4, .val (.bool false)), (8, .call [] (.d (.bool b16)) [])])], G := [(63, gPlc), (62, gA (.tup [.d (C12.rqD q), .d (.int .i64 n)]))]}) (subs := []) (ws := []) (ρ := []) (by kernel_rfl) ?_
 subst k1
 have a1 := C13.has28 x 1
 have a2 := C13.has28 x 2
 have a16 := C13.has28 x 16
 rw [h1] at a1
 rw [h2] at a2
 rw [h16] at a16
 repeat' (with_reducible first|exact ⟨⟩|apply And.intro|(first|apply zA|apply zB|apply zC|apply zD|apply zE|apply zF|apply zG)<;>intro)
 all_goals first | exact a1 | exact a2 | exact a16 | exact k1 | exact k6 | exact place63 _ _ _ | rfl | exact dyes ht | exact dno (by simp [ht]) | (refine congrArg D.bool ?_; simp [*]; done) | (cases b16 <;> first | rfl | contradiction) | (exfalso; simp_all; done) | skip
end Go.Proofs.YtalpfhpeaaocmaaGreat
end
section
namespace Go.Proofs.YtalpfhpeaaocmaaGreat
open Sx Go.RowKit
theorem pAcked_eq (s : Pp) (x : C13.Sg) : pAcked s x = { s with li := if s.sq.b ≤ pCum s x ∧ pCum s x ≤ s.sq.n then max s.li (IntKind.i64.wrap (pCum s x + x.w)) else s.li, sq := (pAck s x).1, rt := pRt s.rt (C08.rSample s.rt (pAck s x).2.s) (pAck s x).2, wn := pWn s.wn (C10.aAcked s.wn (pAck s x).2.a) (C10.aLost (if (pAck s x).2.a > 0 then C10.aAcked s.wn (pAck s x).2.a else s.wn)) (pAck s x).2 } := rfl
theorem bkOf_map (bs : List (Int × Int)) : (bs.map bkD).map bkOf = bs := by
 rw [List.map_map]
 have : bkOf ∘ bkD = id := funext fun x => rfl
 rw [this, List.map_id]
theorem acked61 (s : Pp) (ok : C11.SqOk s.sq) (hf : s.sq.fl.length < 10000) (hc : s.sq.cm.length < 10000) (x : C13.Sg) (bs : List (Int × Int)) (hk : x.k = bs.map bkD) (hl : bs.length < 9000) : FnOK Tryz.prog 61 [.ptr 0 0, .d (C13.sgD x)] [ppB s] (.tup []) [ppB (pAcked s x)] := by
 have hbl : (pBlocks s bs (pCum s x)).length < 10000 := by
  have := pBlocks_len s (pCum s x) bs []
  unfold pBlocks; simp at this; omega
 have k2 := C11.ack20 s.sq ok hf hc (pCum s x) (pBlocks s bs (pCum s x)) hbl s.no
 have e : pAck s x = C11.rAck s.sq (pCum s x) (pBlocks s bs (pCum s x)) s.no := by unfold pAck; rw [hk, bkOf_map]
 rw [← e] at k2
 have k3 := C08.sample16 s.rt (pAck s x).2.s
 have k4 := C10.acked15 s.wn (pAck s x).2.a
 have k5 := C10.lost17 (if (pAck s x).2.a > 0 then C10.aAcked s.wn (pAck s x).2.a else s.wn)
 have k1 := fun li : Int => blocks89 { s with li := li } bs (by omega) (pCum s x)
 rw [pAcked_eq]
 by_cases h : s.sq.b ≤ pCum s x ∧ pCum s x ≤ s.sq.n
 ·rw [if_pos h]
  exact acked61y s _ x bs hk _ _ rfl _ _ _ _ _ _ rfl (k1 _) k2 k3 k4 k5 h rfl
 ·rw [if_neg h]
  by_cases h1 : s.sq.b ≤ pCum s x
  ·exact acked61m s _ x bs hk _ _ rfl _ _ _ _ _ _ rfl (k1 _) k2 k3 k4 k5 ⟨h1, fun g => h ⟨h1, g⟩⟩ rfl
  ·exact acked61n s _ x bs hk _ _ rfl _ _ _ _ _ _ rfl (k1 _) k2 k3 k4 k5 h1 rfl
theorem took32 (s : Pp) (ok : C11.SqOk s.sq) (hf : s.sq.fl.length < 10000) (hc : s.sq.cm.length < 10000) (hb : C12.Rb s.rq) (hp : s.rq.p.length < 900000) (x : C13.Sg) (hx : C12.rHeld s.rq + x.t.length < 900000) (bs : List (Int × Int)) (hk : x.k = bs.map bkD) (hl : bs.length < 9000) : FnOK Tryz.prog 32 [.ptr 0 0, .d (C13.sgD x)] [ppB s] (.tup []) [ppB (pTook s x)] := by
 have k1 := acked61 s ok hf hc x bs hk hl
 have k6 := fun s1 : Pp => fun h : s1.rq = s.rq => C12.put11 s1.rq (h ▸ hb) (h ▸ hp) (pPlc s1.sh.h s1.rq.b x.q) x.t (by rw [h]; exact hx)
 rw [pTook_eq]
 cases h1 : C13.hasB x.f 1
 ·cases h2 : C13.hasB x.f 2
  ·have e : pA s x = s := by unfold pA; rw [h2, h1]; rfl
   rw [e]
   by_cases ht : x.t = []
   ·have := tookC0 s s x true _ ⟨0, [], []⟩ 0 h1 h2 rfl rfl ht trivial
    rw [if_neg (by simp [ht]), decide_eq_false (by simp [ht])]
    simpa using this
   ·rw [if_pos ht, decide_eq_true ht]
    have := tookC1 s s x true _ _ _ h1 h2 rfl rfl ht (k6 s rfl)
    simpa using this
  ·have e : pA s x = pAcked s x := by unfold pA; rw [h2, h1]; rfl
   rw [e]
   by_cases ht : x.t = []
   ·have := tookA0 s _ x true _ ⟨0, [], []⟩ 0 h1 h2 rfl k1 ht trivial
    rw [if_neg (by simp [ht]), decide_eq_false (by simp [ht])]
    simpa using this
   ·rw [if_pos ht, decide_eq_true ht]
    have := tookA1 s _ x true _ _ _ h1 h2 rfl k1 ht (k6 _ rfl)
    simpa using this
 ·have e : pA s x = s := by unfold pA; rw [h1]; simp
  rw [e]
  by_cases ht : x.t = []
  ·have := tookB0 s s x _ _ ⟨0, [], []⟩ 0 h1 rfl rfl rfl ht trivial
   rw [if_neg (by simp [ht])]
   simpa using this
  ·rw [if_pos ht]
   have := tookB1 s s x _ _ _ _ h1 rfl rfl rfl ht (k6 s rfl)
   simpa using this
end Go.Proofs.YtalpfhpeaaocmaaGreat
end
