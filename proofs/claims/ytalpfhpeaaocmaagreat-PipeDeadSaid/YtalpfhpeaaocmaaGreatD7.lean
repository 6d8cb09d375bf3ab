/-
Part 7 of 8 of the proof of pipeDead: the lemmas that it needs, of the texts C12B, S0, S1, S2, S3, S3J, S4, S5, C12C, S6. No condition but those that each lemma names.
-/
import Derived.Test.YtalpfhpeaaocmaaGreatD3
import Derived.Test.YtalpfhpeaaocmaaGreatD4
import Derived.Test.YtalpfhpeaaocmaaGreatD6
import Derived.Test.YtalpfhpeaaocmaaGreatProg
import Derived.KernelRfl
import Derived.Test.YtalpfhpeaaocmaaGreatD1
import Derived.Test.YtalpfhpeaaocmaaGreatD2
import Derived.Test.YtalpfhpeaaocmaaGreatD5

section
set_option linter.unusedSimpArgs false
set_option linter.unusedVariables false
namespace Go.Proofs.YtalpfhpeaaocmaaGreat.C12
open Sx Go.RowKit
def ivP (x : Pt) : C06.Iv := (x.a, pEnd x)
def rBlk (s : Rq) (most : Int) : List C06.Iv := if rChk s = 0 then (s.p.map ivP).take most.toNat else []
theorem ivp_take {l : List Pt} {j : Nat} {x : Pt} (h : l[j]? = some x) : (l.take (j + 1)).map ivP = (l.take j).map ivP ++ [ivP x] := by
  rw [take_snoc h, List.map_append]; rfl
def I24 (s : Rq) (most : Int) (j : Nat) : St := ⟨[(1, .d (.int .i64 most)), (2, .ptr 0 0), (5, .own 1 2), (12, .d (.sl (s.p.map ptD))), (13, .d (.int .i64 s.p.length)), (14, .d (.int .i64 j))], [(0, rqB s), (1, .row 2 ((((s.p.take j).map ivP).take most.toNat).map C06.ivD))]⟩
set_option maxRecDepth 100000 in
set_option maxHeartbeats 1000000 in
theorem r24a (s : Rq) (hb : Rb s) (most : Int) (j : Nat) (x : Pt) (hn : s.p[j]? = some x) (hw : IntKind.i64.wrap (pEnd x) = pEnd x) (hm : (j : Int) < most) : Runs Tryz.prog 0 (loopN Tryz.prog 85 0) (St.as (I24 s most j) 32) (.normal) (St.as (I24 s most (j+1)) 32) := by
  refine round_wp (p := condP (decide ((↑j : Int) < (↑s.p.length : Int))) (((0 : Int) ≤ (↑j : Int)) ∧ ((List.map ptD s.p)[(↑j : Int).toNat]? = some (ptD x)) ∧ (D.bool (decide ((↑(List.map C06.ivD (List.take most.toNat (List.map ivP (List.take j s.p)))).length : Int) < most)) = D.bool true) ∧ (FnOK Tryz.prog 94 [AV.d (ptD x)] [] (vI (pEnd x)) []) ∧ (((List.map C06.ivD (List.take most.toNat (List.map ivP (List.take j s.p)))).length + [D.agg (List.take 2 [D.int .i64 x.a, D.int .i64 (pEnd x)])].length) * 16 ≤ 140737488355328) ∧ (∀ (e : D), e ∈ chunk 2 1 [D.int .i64 x.a, D.int .i64 (pEnd x)] → e.cells.length = 2) ∧ (rf (vI most)) ∧ (rf (AV.ptr 0 0)) ∧ (rf (AV.own 1232 2)) ∧ (rf (vL (List.map ptD s.p))) ∧ (rf (vI (↑s.p.length : Int))) ∧ (vI (IntKind.i64.wrap ((↑j : Int) + (1 : Int))) = vI (↑(j + 1) : Int)) ∧ (rf (Ob.box [vI s.b, vS s.r, vL (List.map ptD s.p)])) ∧ (Ob.row 2 (List.map C06.ivD (List.take most.toNat (List.map ivP (List.take j s.p))) ++ [D.agg (List.take 2 [D.int .i64 x.a, D.int .i64 (pEnd x)])]) = Ob.row 2 (List.map C06.ivD (List.take most.toNat (List.map ivP (List.take (j + 1) s.p))))) ∧ True) (False)) (h := {els := [(12, .el (ptD x))], G := [(94, gAns (.d (.int .i64 (pEnd x))))], H := [(7, [(3, .val (.bool true))])]}) (subs := []) (ws := []) (ρ := []) (by kernel_rfl) ?_
  have hj := get_lt hn
  have hp := hb.p
  have hi := inc_i64 (j := j) (by omega)
  have k1 := end33 x hw
  have hl1 : ((s.p.take j).map ivP).length = j := by simp; omega
  rw [hi, ivp_take hn]
  simp only [List.length_map, List.length_take, hl1]
  refine condP_t (by rw [decide_eq_true_eq]; omega) ?_
  have e1 : ((s.p.take j).map ivP).take most.toNat = (s.p.take j).map ivP := List.take_of_length_le (by rw [hl1]; omega)
  have e2 : ((s.p.take j).map ivP ++ [ivP x]).take most.toNat = (s.p.take j).map ivP ++ [ivP x] := List.take_of_length_le (by rw [List.length_append, hl1]; simp; omega)
  rw [e1, e2, List.map_append]
  repeat' (with_reducible first | exact True.intro | apply And.intro | (first | apply zA | apply zB | apply zC | apply zD | apply zE | apply zF | apply zG) <;> intro)
  all_goals first | exact k1 | exact el_map hn rfl | rfl | omega | exact dyes (by omega) | (rw [List.length_map, hl1]; simp; omega) | (simp; omega) | (simp [chunk, C06.ivD, D.cells]; done) | skip
set_option maxRecDepth 100000 in
set_option maxHeartbeats 1000000 in
theorem r24b (s : Rq) (hb : Rb s) (most : Int) (j : Nat) (x : Pt) (hn : s.p[j]? = some x) (hw : IntKind.i64.wrap (pEnd x) = pEnd x) (hm : ¬(j : Int) < most) : Runs Tryz.prog 0 (loopN Tryz.prog 85 0) (St.as (I24 s most j) 32) (.normal) (St.as (I24 s most (j+1)) 32) := by
  refine round_wp (p := condP (decide ((↑j : Int) < (↑s.p.length : Int))) (((0 : Int) ≤ (↑j : Int)) ∧ ((List.map ptD s.p)[(↑j : Int).toNat]? = some (ptD x)) ∧ (D.bool (decide ((↑(List.map C06.ivD (List.take most.toNat (List.map ivP (List.take j s.p)))).length : Int) < most)) = D.bool false) ∧ (rf (vI most)) ∧ (rf (AV.ptr 0 0)) ∧ (rf (AV.own 1 2)) ∧ (rf (vL (List.map ptD s.p))) ∧ (rf (vI (↑s.p.length : Int))) ∧ (vI (IntKind.i64.wrap ((↑j : Int) + (1 : Int))) = vI (↑(j + 1) : Int)) ∧ (rf (Ob.box [vI s.b, vS s.r, vL (List.map ptD s.p)])) ∧ (Ob.row 2 (List.map C06.ivD (List.take most.toNat (List.map ivP (List.take j s.p)))) = Ob.row 2 (List.map C06.ivD (List.take most.toNat (List.map ivP (List.take (j + 1) s.p))))) ∧ True) (False)) (h := {els := [(12, .el (ptD x))], H := [(7, [(3, .val (.bool false))])]}) (subs := []) (ws := []) (ρ := []) (by kernel_rfl) ?_
  have hj := get_lt hn
  have hp := hb.p
  have hi := inc_i64 (j := j) (by omega)
  have k1 := end33 x hw
  have hl1 : ((s.p.take j).map ivP).length = j := by simp; omega
  rw [hi, ivp_take hn]
  simp only [List.length_map, List.length_take, hl1]
  refine condP_t (by rw [decide_eq_true_eq]; omega) ?_
  have e2 : ((s.p.take j).map ivP ++ [ivP x]).take most.toNat = ((s.p.take j).map ivP).take most.toNat := List.take_append_of_le_length (by rw [hl1]; omega)
  rw [e2]
  repeat' (with_reducible first | exact True.intro | apply And.intro | (first | apply zA | apply zB | apply zC | apply zD | apply zE | apply zF | apply zG) <;> intro)
  all_goals first | exact k1 | exact el_map hn rfl | rfl | omega | exact dno (by omega) | skip
set_option maxRecDepth 100000 in
set_option maxHeartbeats 1000000 in
theorem q24 (s : Rq) (most : Int) : Runs Tryz.prog 0 (loopN Tryz.prog 85 0) (St.as (I24 s most s.p.length) 32) (.exit 0) (St.as (I24 s most s.p.length) 32) := by
  refine round_wp (p := condP (decide ((↑s.p.length : Int) < (↑s.p.length : Int))) (False) ((rf (vI most)) ∧ (rf (AV.ptr 0 0)) ∧ (rf (AV.own 1 2)) ∧ (rf (vL (List.map ptD s.p))) ∧ (rf (vI (↑s.p.length : Int))) ∧ (rf (vI (↑s.p.length : Int))) ∧ (rf (Ob.box [vI s.b, vS s.r, vL (List.map ptD s.p)])) ∧ (rf (Ob.row 2 (List.map C06.ivD (List.take most.toNat (List.map ivP (List.take s.p.length s.p)))))) ∧ True)) (h := {}) (subs := []) (ws := []) (ρ := []) (by kernel_rfl) ?_
  repeat' (with_reducible first | exact True.intro | apply And.intro | (first | apply zA | apply zB | apply zC | apply zD | apply zE | apply zF | apply zG) <;> intro)
  all_goals (try simp only [List.length_map, AV.d.injEq, D.int.injEq, D.bool.injEq, D.str.injEq, D.sl.injEq, true_and, and_true, decide_eq_true_eq, decide_eq_false_iff_not, decide_eq_decide])
  all_goals (try simp only [List.length_map] at *)
  all_goals first | rfl | omega
set_option maxRecDepth 100000 in
set_option maxHeartbeats 1000000 in
theorem blk24e (s : Rq) (hb : Rb s) (most e : Int) (he : rChk s = e) (h1 : e ≠ 0) : FnOK Tryz.prog 85 ([.d (rqD s), .d (.int .i64 most)]) ([]) (.d (.sl [])) ([]) := by
  refine fnOK_wp (p := (FnOK Tryz.prog 66 [AV.d (rqD s)] [] (vI e) []) ∧ (D.bool (e != (0 : Int)) = D.bool true) ∧ (rf (vL [])) ∧ True) (h := {G := [(66, gAns (.d (.int .i64 e)))], H := [(1, [(2, .val (.bool true))])]}) (subs := []) (ws := []) (ρ := []) (by kernel_rfl) ?_
  have k1 := chk17 s hb
  rw [he] at k1
  repeat' (with_reducible first | exact True.intro | apply And.intro | (first | apply zA | apply zB | apply zC | apply zD | apply zE | apply zF | apply zG) <;> intro)
  all_goals first | exact k1 | rfl | (refine congrArg D.bool ?_; simpa using h1) | skip
set_option maxRecDepth 100000 in
set_option maxHeartbeats 1000000 in
theorem blk24y (s : Rq) (hb : Rb s) (most : Int) (he : rChk s = 0) (hL : Loops Tryz.prog 0 (loopN Tryz.prog 85 0) ((I24 s most 0).as 32) (.exit 0) ((I24 s most s.p.length).as 32)) : FnOK Tryz.prog 85 ([.d (rqD s), .d (.int .i64 most)]) ([]) (.d (.sl (((s.p.map ivP).take most.toNat).map C06.ivD))) ([]) := by
  refine fnOK_wp (p := (FnOK Tryz.prog 66 [AV.d (rqD s)] [] (vI 0) []) ∧ (rf (vI most)) ∧ (rf (AV.ptr 1016 0)) ∧ (rf (AV.own 901 2)) ∧ (rf (vL (List.map ptD s.p))) ∧ (vI (↑(List.map ptD s.p).length : Int) = vI (↑s.p.length : Int)) ∧ (rf (vI 0)) ∧ (rf (Ob.box [vI s.b, vS s.r, vL (List.map ptD s.p)])) ∧ (Ob.row 2 [] = Ob.row 2 (List.map C06.ivD (List.take most.toNat (List.map ivP (List.take 0 s.p))))) ∧ (LoopsS Tryz.prog 0 (loopN Tryz.prog 85 0) (I24 s most 0) (Exit.exit 0) (I24 s most s.p.length) 32) ∧ (vL (List.map C06.ivD (List.take most.toNat (List.map ivP (List.take s.p.length s.p)))) = vL (List.map C06.ivD (List.take most.toNat (List.map ivP s.p)))) ∧ True) (h := {G := [(66, gAns (.d (.int .i64 0)))]}) (subs := [⟨[], [], I24 s most 0, .exit 0, I24 s most s.p.length⟩]) (ws := []) (ρ := []) (by kernel_rfl) ?_
  have k1 := chk17 s hb
  rw [he] at k1
  simp only [List.length_map]
  repeat' (with_reducible first | exact True.intro | apply And.intro | (first | apply zA | apply zB | apply zC | apply zD | apply zE | apply zF | apply zG) <;> intro)
  all_goals first | exact k1 | exact hL | rfl | (simp; done) | (rw [List.take_length]; rfl) | (rw [List.take_length]; done) | skip
theorem blk24 (s : Rq) (hb : Rb s) (most : Int) : FnOK Tryz.prog 85 [.d (rqD s), .d (.int .i64 most)] [] (.d (.sl ((rBlk s most).map C06.ivD))) [] := by
  unfold rBlk
  by_cases he : rChk s = 0
  · rw [if_pos he]
    have hz := chk_zero he
    have hm := rBad_mem (rLim_le s) hz.1.1 hz.2
    refine blk24y s hb most he (loops_n (I := fun j => (I24 s most j).as 32) (by simp) s.p.length 0 (by omega) (fun j _ hj => ?_) (q24 s most))
    have hw := (hm _ (List.getElem_mem hj)).2
    by_cases h : (j : Int) < most
    · exact r24a s hb most j _ (get_of hj) hw h
    · exact r24b s hb most j _ (get_of hj) hw h
  · rw [if_neg he]; exact blk24e s hb most _ rfl he
end Go.Proofs.YtalpfhpeaaocmaaGreat.C12
end
section
set_option linter.unusedSimpArgs false
set_option linter.unusedVariables false
namespace Go.Proofs.YtalpfhpeaaocmaaGreat
open Sx Go.RowKit
structure Pp where
  sh : C13.Nd
  sq : C11.Sq
  rq : C12.Rq
  rt : C08.Rtt
  wn : C10.Aim
  li : Int
  no : Int
  he : Int
  nx : Int
  pr : Int
  du : Bool
def ppL (s : Pp) : List D := [.int .u8 s.sh.g, .int .i64 s.sh.p, .int .i64 s.sh.e, .int .u32 s.sh.m, .int .u32 s.sh.h,
  .int .i64 s.sq.b, .str s.sq.d, .int .i64 s.sq.n, .sl (s.sq.fl.map C11.ckD), .sl (s.sq.cm.map C06.ivD),
  .int .i64 s.rq.b, .str s.rq.r, .sl (s.rq.p.map C12.ptD), .int .i64 s.rt.s, .int .i64 s.rt.v, .bool s.rt.k, .int .i64 s.rt.h,
  .int .i64 s.wn.w, .int .i64 s.wn.t, .int .i64 s.wn.p, .int .i64 s.li, .int .i64 s.no, .int .i64 s.he, .int .i64 s.nx, .int .i64 s.pr, .bool s.du]
def ppD (s : Pp) : D := .agg (ppL s)
def ppB (s : Pp) : Ob := .box [.d (.int .u8 s.sh.g), .d (.int .i64 s.sh.p), .d (.int .i64 s.sh.e), .d (.int .u32 s.sh.m), .d (.int .u32 s.sh.h),
  .d (.int .i64 s.sq.b), .d (.str s.sq.d), .d (.int .i64 s.sq.n), .d (.sl (s.sq.fl.map C11.ckD)), .d (.sl (s.sq.cm.map C06.ivD)),
  .d (.int .i64 s.rq.b), .d (.str s.rq.r), .d (.sl (s.rq.p.map C12.ptD)), .d (.int .i64 s.rt.s), .d (.int .i64 s.rt.v), .d (.bool s.rt.k), .d (.int .i64 s.rt.h),
  .d (.int .i64 s.wn.w), .d (.int .i64 s.wn.t), .d (.int .i64 s.wn.p), .d (.int .i64 s.li), .d (.int .i64 s.no), .d (.int .i64 s.he), .d (.int .i64 s.nx), .d (.int .i64 s.pr), .d (.bool s.du)]
def pDead (s : Pp) : Bool := s.sh.g == 4
def pUp (s : Pp) : Bool := s.sh.g == 3
def pKill (s : Pp) : Pp := { s with sh := C13.nAt s.sh 4 }
def pOpen (s : Pp) : Pp := if s.sh.g = 0 then { s with sh := C13.nAsk s.sh, he := s.no } else s
def pNew (p e m : Int) : Pp := ⟨C13.nNew p e m, ⟨0, [], 0, [], []⟩, ⟨0, [], []⟩, C08.rNew, C10.aNew, 4096, 0, 0, 0, 0, false⟩
def pWrite (s : Pp) (x : List UInt8) : Pp × Int := if pDead s = true then (s, 0) else ({ s with sq := (C11.rWrite s.sq x).1 }, (C11.rWrite s.sq x).2)
def pFree (s : Pp) : Int := IntKind.i64.wrap (C12.rLim s.rq - s.rq.b)
def pRead (s : Pp) (n : Int) : Pp × List UInt8 :=
  ({ s with rq := (C12.rRead s.rq n).1, du := s.du || (decide (pFree s < 48) && decide ((C12.rRead s.rq n).2 ≠ [])) }, (C12.rRead s.rq n).2)
def pRoom (s : Pp) : Int := if pDead s = true then 0 else IntKind.i64.wrap (4096 - (s.sq.d.length : Int))
def pTick (s : Pp) (now : Int) : Pp :=
  if now ≤ s.no ∨ now > 1099511627776 then s
  else if s.sh.g = 4 ∨ s.sh.g = 0 then { s with no := now }
  else if IntKind.i64.wrap (now - s.he) ≥ 200 then pKill { s with no := now }
  else if (C11.rOldest s.sq).2 = true ∧ IntKind.i64.wrap (now - (C11.rOldest s.sq).1) ≥ C08.rWait s.rt then { s with no := now, sq := (C11.rExpire s.sq).1, rt := C08.rExpire s.rt, wn := C10.aExpired s.wn }
  else { s with no := now }
def pNum (f a : Int) : Int := C13.aAdd f (IntKind.i64.wrap (a + 1))
def pPlc (f near n : Int) : Int := C04.sLong near (IntKind.u32.wrap (C13.aAdd n (-1) - f))
def bkD (x : Int × Int) : D := .agg [.int .u32 x.1, .int .u32 x.2]
def pBks (s : Pp) : List (Int × Int) := (C12.rBlk s.rq 3).map fun x => (pNum s.sh.h x.1, pNum s.sh.h x.2)
def pBear (s : Pp) (a : Int) (t : List UInt8) : C13.Sg :=
  ⟨2, s.sh.p, s.sh.e, pNum s.sh.m a, pNum s.sh.h s.rq.b, min (pFree s) 65535, (pBks s).map bkD, t⟩
def pPick (s : Pp) : C11.Sq × C11.Ck × List UInt8 := C11.rPick s.sq s.no s.wn.w s.li
def pSpeak (s : Pp) : Pp × C13.Sg × Bool :=
  if (pPick s).2.2 ≠ [] then ({ s with sq := (pPick s).1, du := false }, pBear s (pPick s).2.1.f (pPick s).2.2, true)
  else if s.du = false ∧ IntKind.i64.wrap (s.no - max s.he s.pr) < 16 then (s, C13.sgZ, false)
  else if s.du = true then ({ s with du := false }, pBear s s.sq.n [], true)
  else ({ s with du := false, pr := s.no }, { pBear s s.sq.n [] with f := 18 }, true)
def pGreet (s : Pp) : Pp × C13.Sg × Bool :=
  if C13.nSays s.sh = false ∨ s.no < s.nx then (s, C13.sgZ, false)
  else ({ s with nx := IntKind.i64.wrap (s.no + C08.rWait s.rt), rt := C08.rExpire s.rt }, C13.nOut s.sh, true)
def pOut (s : Pp) : Pp × C13.Sg × Bool := if pUp s = true then pSpeak s else pGreet s
/-- The places of a segment's blocks that may be. -/
def pIval (s : Pp) (cum : Int) (b : Int × Int) : C06.Iv := (pPlc s.sh.m (max cum 0) b.1, pPlc s.sh.m (max cum 0) b.2)
def pGood (s : Pp) (cum : Int) (x : C06.Iv) : Bool := decide (x.1 ≥ cum) && (decide (x.2 > x.1) && decide (x.2 ≤ s.sq.n))
def blkS (s : Pp) (cum : Int) (l : List C06.Iv) (b : Int × Int) : List C06.Iv := if pGood s cum (pIval s cum b) = true then C06.rAdd l (pIval s cum b) else l
def pBlocks (s : Pp) (l : List (Int × Int)) (cum : Int) : List C06.Iv := l.foldl (blkS s cum) []
def bkOf : D → Int × Int
  | .agg [.int _ a, .int _ b] => (a, b)
  | _ => (0, 0)
def pCum (s : Pp) (x : C13.Sg) : Int := pPlc s.sh.m s.sq.b x.a
def pAck (s : Pp) (x : C13.Sg) : C11.Sq × C11.Rp := C11.rAck s.sq (pCum s x) (pBlocks s (x.k.map bkOf) (pCum s x)) s.no
def pAcked (s : Pp) (x : C13.Sg) : Pp :=
  { s with
    li := if s.sq.b ≤ pCum s x ∧ pCum s x ≤ s.sq.n then max s.li (IntKind.i64.wrap (pCum s x + x.w)) else s.li
    sq := (pAck s x).1
    rt := if (pAck s x).2.s ≥ 0 then C08.rSample s.rt (pAck s x).2.s else s.rt
    wn := (fun w => if (pAck s x).2.l = true then C10.aLost w else w) (if (pAck s x).2.a > 0 then C10.aAcked s.wn (pAck s x).2.a else s.wn) }
def pGot (s : Pp) (x : C13.Sg) : Pp := if x.t ≠ [] then { s with rq := (C12.rPut s.rq (pPlc s.sh.h s.rq.b x.q) x.t).1 } else s
def pTook (s : Pp) (x : C13.Sg) : Pp :=
  let s1 := if C13.hasB x.f 2 = true ∧ C13.hasB x.f 1 = false then pAcked s x else s
  let s2 := pGot s1 x
  if C13.hasB x.f 1 = true ∨ x.t ≠ [] ∨ C13.hasB x.f 16 = true then { s2 with du := true } else s2
def pOn (s : Pp) (x : C13.Sg) : Pp :=
  if pDead s = true ∨ C13.nFit s.sh x = false then s
  else if pUp { s with he := s.no, sh := C13.nOn s.sh x } = true then pTook { s with he := s.no, sh := C13.nOn s.sh x } x else { s with he := s.no, sh := C13.nOn s.sh x }
def TK (s : Pp) (q : C12.Rq) (d : Bool) : Pp := { s with rq := q, du := d }
def pA (s : Pp) (x : C13.Sg) : Pp := if C13.hasB x.f 2 = true ∧ C13.hasB x.f 1 = false then pAcked s x else s
theorem pTook_eq (s : Pp) (x : C13.Sg) : pTook s x = TK (pA s x) (if x.t ≠ [] then (C12.rPut (pA s x).rq (pPlc (pA s x).sh.h (pA s x).rq.b x.q) x.t).1 else (pA s x).rq) ((C13.hasB x.f 1 || (decide (x.t ≠ []) || C13.hasB x.f 16)) || (pA s x).du) := by
  show (if _ then { pGot (pA s x) x with du := true } else pGot (pA s x) x) = _
  generalize pA s x = y
  unfold pGot
  by_cases ht : x.t ≠ []
  · rw [if_pos (.inr (.inl ht)), decide_eq_true ht]
    simp only [if_pos ht]
    simp [TK]
  · rw [decide_eq_false ht]
    simp only [if_neg ht]
    cases h1 : C13.hasB x.f 1 <;> cases h16 : C13.hasB x.f 16 <;> simp [TK, ht]
structure Tk where
  e0 : Pp
  e1 : Pp
  s0 : List C13.Sg
  s1 : List C13.Sg
  w0 : List UInt8
  w1 : List UInt8
  r0 : List UInt8
  r1 : List UInt8
  now : Int
structure De where
  k : Int
  n : Int
  t : List UInt8
def deD (d : De) : D := .agg [.int .u8 d.k, .int .u8 d.n, .str d.t]
end Go.Proofs.YtalpfhpeaaocmaaGreat
namespace Go.Proofs.YtalpfhpeaaocmaaGreat
open Sx
def pxD (a0 : Int) (a1 : Int) (a2 : Int) (a3 : Int) (a4 : Int) (a5 : Int) (a6 : List UInt8) (a7 : Int) (a8 : List C11.Ck) (a9 : List C06.Iv) (a10 : Int) (a11 : List UInt8) (a12 : List C12.Pt) (a13 : Int) (a14 : Int) (a15 : Bool) (a16 : Int) (a17 : Int) (a18 : Int) (a19 : Int) (a20 : Int) (a21 : Int) (a22 : Int) (a23 : Int) (a24 : Int) (a25 : Bool) : D := .agg [D.int .u8 a0, D.int .i64 a1, D.int .i64 a2, D.int .u32 a3, D.int .u32 a4, D.int .i64 a5, D.str a6, D.int .i64 a7, D.sl (List.map C11.ckD a8), D.sl (List.map C06.ivD a9), D.int .i64 a10, D.str a11, D.sl (List.map C12.ptD a12), D.int .i64 a13, D.int .i64 a14, D.bool a15, D.int .i64 a16, D.int .i64 a17, D.int .i64 a18, D.int .i64 a19, D.int .i64 a20, D.int .i64 a21, D.int .i64 a22, D.int .i64 a23, D.int .i64 a24, D.bool a25]
def pxC (a0 : Int) (a1 : Int) (a2 : Int) (a3 : Int) (a4 : Int) (a5 : Int) (a6 : List UInt8) (a7 : Int) (a8 : List C11.Ck) (a9 : List C06.Iv) (a10 : Int) (a11 : List UInt8) (a12 : List C12.Pt) (a13 : Int) (a14 : Int) (a15 : Bool) (a16 : Int) (a17 : Int) (a18 : Int) (a19 : Int) (a20 : Int) (a21 : Int) (a22 : Int) (a23 : Int) (a24 : Int) (a25 : Bool) : List AV := [.d (D.int .u8 a0), .d (D.int .i64 a1), .d (D.int .i64 a2), .d (D.int .u32 a3), .d (D.int .u32 a4), .d (D.int .i64 a5), .d (D.str a6), .d (D.int .i64 a7), .d (D.sl (List.map C11.ckD a8)), .d (D.sl (List.map C06.ivD a9)), .d (D.int .i64 a10), .d (D.str a11), .d (D.sl (List.map C12.ptD a12)), .d (D.int .i64 a13), .d (D.int .i64 a14), .d (D.bool a15), .d (D.int .i64 a16), .d (D.int .i64 a17), .d (D.int .i64 a18), .d (D.int .i64 a19), .d (D.int .i64 a20), .d (D.int .i64 a21), .d (D.int .i64 a22), .d (D.int .i64 a23), .d (D.int .i64 a24), .d (D.bool a25)]
def pxB (a0 : Int) (a1 : Int) (a2 : Int) (a3 : Int) (a4 : Int) (a5 : Int) (a6 : List UInt8) (a7 : Int) (a8 : List C11.Ck) (a9 : List C06.Iv) (a10 : Int) (a11 : List UInt8) (a12 : List C12.Pt) (a13 : Int) (a14 : Int) (a15 : Bool) (a16 : Int) (a17 : Int) (a18 : Int) (a19 : Int) (a20 : Int) (a21 : Int) (a22 : Int) (a23 : Int) (a24 : Int) (a25 : Bool) : Ob := .box (pxC a0 a1 a2 a3 a4 a5 a6 a7 a8 a9 a10 a11 a12 a13 a14 a15 a16 a17 a18 a19 a20 a21 a22 a23 a24 a25)
end Go.Proofs.YtalpfhpeaaocmaaGreat
end
section
set_option linter.unusedSimpArgs false
set_option linter.unusedVariables false
namespace Go.Proofs.YtalpfhpeaaocmaaGreat
open Sx Go.RowKit
def gA (r : AV) : List D → Option (AV × List Ob) := fun _ => some (r, [])
set_option maxRecDepth 100000 in
set_option maxHeartbeats 1000000 in
theorem dead26 (s : Pp) : FnOK Tryz.prog 26 ([.d (ppD s)]) ([]) (.d (.bool (pDead s))) ([]) := by
  refine fnOK_wp (p := (vB (s.sh.g == (4 : Int)) = vB (pDead s)) ∧ True) (h := {}) (subs := []) (ws := []) (ρ := []) (by kernel_rfl) ?_
  exact ⟨rfl, trivial⟩
set_option maxRecDepth 100000 in
set_option maxHeartbeats 1000000 in
theorem alive12 (s : Pp) : FnOK Tryz.prog 12 ([.d (ppD s)]) ([]) (.d (.bool (pUp s))) ([]) := by
  refine fnOK_wp (p := (vB (s.sh.g == (3 : Int)) = vB (pUp s)) ∧ True) (h := {}) (subs := []) (ws := []) (ρ := []) (by kernel_rfl) ?_
  exact ⟨rfl, trivial⟩
set_option maxRecDepth 100000 in
set_option maxHeartbeats 1000000 in
theorem ready18 (s : Pp) : FnOK Tryz.prog 18 ([.d (ppD s)]) ([]) (.d (.int .i64 s.rq.r.length)) ([]) := by
  refine fnOK_wp (p := (rf (vI (↑s.rq.r.length : Int))) ∧ True) (h := {}) (subs := []) (ws := []) (ρ := []) (by kernel_rfl) ?_
  exact ⟨rfl, trivial⟩
set_option maxRecDepth 100000 in
set_option maxHeartbeats 1000000 in
theorem idle13 (s : Pp) : FnOK Tryz.prog 13 ([.d (ppD s)]) ([]) (.d (.bool (s.sq.d == []))) ([]) := by
  refine fnOK_wp (p := (rf (vB (s.sq.d == []))) ∧ True) (h := {}) (subs := []) (ws := []) (ρ := []) (by kernel_rfl) ?_
  exact ⟨rfl, trivial⟩
set_option maxRecDepth 100000 in
set_option maxHeartbeats 1000000 in
theorem kill14 (s : Pp) : FnOK Tryz.prog 14 ([.d (ppD s)]) ([]) (.d (ppD (pKill s))) ([]) := by
  refine fnOK_wp (p := (FnOK Tryz.prog 25 [AV.d (C13.ndD s.sh)] [] (AV.d (.agg [D.int .u8 (C13.nAt s.sh (4 : Int)).g, D.int .i64 (C13.nAt s.sh (4 : Int)).p, D.int .i64 (C13.nAt s.sh (4 : Int)).e, D.int .u32 (C13.nAt s.sh (4 : Int)).m, D.int .u32 (C13.nAt s.sh (4 : Int)).h])) []) ∧ (AV.d (.agg [D.int .u8 (C13.nAt s.sh (4 : Int)).g, D.int .i64 (C13.nAt s.sh (4 : Int)).p, D.int .i64 (C13.nAt s.sh (4 : Int)).e, D.int .u32 (C13.nAt s.sh (4 : Int)).m, D.int .u32 (C13.nAt s.sh (4 : Int)).h, D.int .i64 s.sq.b, D.str s.sq.d, D.int .i64 s.sq.n, D.sl (List.map C11.ckD s.sq.fl), D.sl (List.map C06.ivD s.sq.cm), D.int .i64 s.rq.b, D.str s.rq.r, D.sl (List.map C12.ptD s.rq.p), D.int .i64 s.rt.s, D.int .i64 s.rt.v, D.bool s.rt.k, D.int .i64 s.rt.h, D.int .i64 s.wn.w, D.int .i64 s.wn.t, D.int .i64 s.wn.p, D.int .i64 s.li, D.int .i64 s.no, D.int .i64 s.he, D.int .i64 s.nx, D.int .i64 s.pr, D.bool s.du]) = AV.d (.agg [D.int .u8 (pKill s).sh.g, D.int .i64 (pKill s).sh.p, D.int .i64 (pKill s).sh.e, D.int .u32 (pKill s).sh.m, D.int .u32 (pKill s).sh.h, D.int .i64 (pKill s).sq.b, D.str (pKill s).sq.d, D.int .i64 (pKill s).sq.n, D.sl (List.map C11.ckD (pKill s).sq.fl), D.sl (List.map C06.ivD (pKill s).sq.cm), D.int .i64 (pKill s).rq.b, D.str (pKill s).rq.r, D.sl (List.map C12.ptD (pKill s).rq.p), D.int .i64 (pKill s).rt.s, D.int .i64 (pKill s).rt.v, D.bool (pKill s).rt.k, D.int .i64 (pKill s).rt.h, D.int .i64 (pKill s).wn.w, D.int .i64 (pKill s).wn.t, D.int .i64 (pKill s).wn.p, D.int .i64 (pKill s).li, D.int .i64 (pKill s).no, D.int .i64 (pKill s).he, D.int .i64 (pKill s).nx, D.int .i64 (pKill s).pr, D.bool (pKill s).du])) ∧ True) (h := {G := [(25, gA (.d (C13.ndD (C13.nAt s.sh 4))))]}) (subs := []) (ws := []) (ρ := []) (by kernel_rfl) ?_
  exact ⟨C13.kill22 s.sh, rfl, trivial⟩
set_option maxRecDepth 100000 in
set_option maxHeartbeats 1000000 in
theorem open23y (s : Pp) (h : s.sh.g = 0) : FnOK Tryz.prog 23 ([.d (ppD s)]) ([]) (.d (ppD { s with sh := C13.nAsk s.sh, he := s.no })) ([]) := by
  refine fnOK_wp (p := (D.bool (s.sh.g == (0 : Int)) = D.bool true) ∧ (FnOK Tryz.prog 44 [AV.d (C13.ndD s.sh)] [] (AV.d (.agg [D.int .u8 (C13.nAsk s.sh).g, D.int .i64 (C13.nAsk s.sh).p, D.int .i64 (C13.nAsk s.sh).e, D.int .u32 (C13.nAsk s.sh).m, D.int .u32 (C13.nAsk s.sh).h])) []) ∧ (rf (AV.d (.agg [D.int .u8 (C13.nAsk s.sh).g, D.int .i64 (C13.nAsk s.sh).p, D.int .i64 (C13.nAsk s.sh).e, D.int .u32 (C13.nAsk s.sh).m, D.int .u32 (C13.nAsk s.sh).h, D.int .i64 s.sq.b, D.str s.sq.d, D.int .i64 s.sq.n, D.sl (List.map C11.ckD s.sq.fl), D.sl (List.map C06.ivD s.sq.cm), D.int .i64 s.rq.b, D.str s.rq.r, D.sl (List.map C12.ptD s.rq.p), D.int .i64 s.rt.s, D.int .i64 s.rt.v, D.bool s.rt.k, D.int .i64 s.rt.h, D.int .i64 s.wn.w, D.int .i64 s.wn.t, D.int .i64 s.wn.p, D.int .i64 s.li, D.int .i64 s.no, D.int .i64 s.no, D.int .i64 s.nx, D.int .i64 s.pr, D.bool s.du]))) ∧ True) (h := {G := [(44, gA (.d (C13.ndD (C13.nAsk s.sh))))], H := [(1, [(3, .val (.bool true))])]}) (subs := []) (ws := []) (ρ := []) (by kernel_rfl) ?_
  repeat' (with_reducible first | exact True.intro | apply And.intro | (first | apply zA | apply zB | apply zC | apply zD | apply zE | apply zF | apply zG) <;> intro)
  all_goals first | exact C13.ask11 s.sh | rfl | exact congrArg D.bool (beq_iff_eq.2 h) | skip
set_option maxRecDepth 100000 in
set_option maxHeartbeats 1000000 in
theorem open23n (s : Pp) (h : s.sh.g ≠ 0) : FnOK Tryz.prog 23 ([.d (ppD s)]) ([]) (.d (ppD s)) ([]) := by
  refine fnOK_wp (p := (D.bool (s.sh.g == (0 : Int)) = D.bool false) ∧ (rf (AV.d (ppD s))) ∧ True) (h := {H := [(1, [(3, .val (.bool false))])]}) (subs := []) (ws := []) (ρ := []) (by kernel_rfl) ?_
  repeat' (with_reducible first | exact True.intro | apply And.intro | (first | apply zA | apply zB | apply zC | apply zD | apply zE | apply zF | apply zG) <;> intro)
  all_goals first | rfl | exact congrArg D.bool (beq_eq_false_iff_ne.2 h) | skip
theorem open23 (s : Pp) : FnOK Tryz.prog 23 [.d (ppD s)] [] (.d (ppD (pOpen s))) [] := by
  unfold pOpen
  split
  · next h => exact open23y s h
  · next h => exact open23n s h
set_option maxRecDepth 100000 in
set_option maxHeartbeats 1000000 in
theorem room21y (s : Pp) (h : pDead s = true) : FnOK Tryz.prog 21 ([.d (ppD s)]) ([]) (.d (.int .i64 0)) ([]) := by
  refine fnOK_wp (p := (FnOK Tryz.prog 26 [AV.d (ppD s)] [] (vB true) []) ∧ (rf (vI 0)) ∧ True) (h := {H := [(1, [(1, .call [] (.d (.bool true)) [])])]}) (subs := []) (ws := []) (ρ := []) (by kernel_rfl) ?_
  have k := dead26 s
  rw [h] at k
  repeat' (with_reducible first | exact True.intro | apply And.intro | (first | apply zA | apply zB | apply zC | apply zD | apply zE | apply zF | apply zG) <;> intro)
  all_goals first | exact k | rfl | skip
set_option maxRecDepth 100000 in
set_option maxHeartbeats 1000000 in
theorem room21n (s : Pp) (h : pDead s = false) (n : Int) (k2 : FnOK Tryz.prog 37 [.d (C11.sqD s.sq)] [] (.d (.int .i64 n)) []) : FnOK Tryz.prog 21 ([.d (ppD s)]) ([]) (.d (.int .i64 n)) ([]) := by
  refine fnOK_wp (p := (FnOK Tryz.prog 26 [AV.d (ppD s)] [] (vB false) []) ∧ (FnOK Tryz.prog 37 [AV.d (C11.sqD s.sq)] [] (vI n) []) ∧ (rf (vI n)) ∧ True) (h := {H := [(1, [(1, .call [] (.d (.bool false)) [])]), (3, [(2, .call [] (.d (.int .i64 n)) [])])]}) (subs := []) (ws := []) (ρ := []) (by kernel_rfl) ?_
  have k := dead26 s
  rw [h] at k
  repeat' (with_reducible first | exact True.intro | apply And.intro | (first | apply zA | apply zB | apply zC | apply zD | apply zE | apply zF | apply zG) <;> intro)
  all_goals first | exact k | exact k2 | rfl | skip
set_option maxRecDepth 100000 in
set_option maxHeartbeats 1000000 in
theorem sroom37 (s : C11.Sq) : FnOK Tryz.prog 37 ([.d (C11.sqD s)]) ([]) (.d (.int .i64 (IntKind.i64.wrap (4096 - (s.d.length : Int))))) ([]) := by
  refine fnOK_wp (p := (rf (vI (IntKind.i64.wrap ((4096 : Int) - (↑s.d.length : Int))))) ∧ True) (h := {}) (subs := []) (ws := []) (ρ := []) (by kernel_rfl) ?_
  repeat' (with_reducible first | exact True.intro | apply And.intro | (first | apply zA | apply zB | apply zC | apply zD | apply zE | apply zF | apply zG) <;> intro)
  all_goals first | rfl | skip
theorem room21 (s : Pp) : FnOK Tryz.prog 21 [.d (ppD s)] [] (.d (.int .i64 (pRoom s))) [] := by
  unfold pRoom
  split
  · next h => exact room21y s h
  · next h => exact room21n s (by simpa using h) _ (sroom37 s.sq)
set_option maxRecDepth 100000 in
set_option maxHeartbeats 1000000 in
theorem write15y (s : Pp) (x : List UInt8) (h : pDead s = true) : FnOK Tryz.prog 15 ([.d (ppD s), .d (.str x)]) ([]) (.tup [.d (ppD s), .d (.int .i64 0)]) ([]) := by
  refine fnOK_wp (p := (FnOK Tryz.prog 26 [AV.d (ppD s)] [] (vB true) []) ∧ (rf (AV.tup [AV.d (ppD s), vI 0])) ∧ True) (h := {H := [(1, [(1, .call [] (.d (.bool true)) [])])]}) (subs := []) (ws := []) (ρ := []) (by kernel_rfl) ?_
  have k := dead26 s
  rw [h] at k
  repeat' (with_reducible first | exact True.intro | apply And.intro | (first | apply zA | apply zB | apply zC | apply zD | apply zE | apply zF | apply zG) <;> intro)
  all_goals first | exact k | rfl | skip
set_option maxRecDepth 100000 in
set_option maxHeartbeats 1000000 in
theorem write15n (s : Pp) (x : List UInt8) (h : pDead s = false) (q : C11.Sq) (n : Int) (k2 : FnOK Tryz.prog 27 [.d (C11.sqD s.sq), .d (.str x)] [] (.tup [.d (C11.sqD q), .d (.int .i64 n)]) []) : FnOK Tryz.prog 15 ([.d (ppD s), .d (.str x)]) ([]) (.tup [.d (ppD { s with sq := q }), .d (.int .i64 n)]) ([]) := by
  refine fnOK_wp (p := (FnOK Tryz.prog 26 [AV.d (ppD s)] [] (vB false) []) ∧ (FnOK Tryz.prog 27 [AV.d (C11.sqD s.sq), vS x] [] (AV.tup [AV.d (C11.sqD q), vI n]) []) ∧ (rf (AV.tup [AV.d (ppD { s with sq := q }), vI n])) ∧ True) (h := {H := [(1, [(1, .call [] (.d (.bool false)) [])]), (4, [(3, .call [] (.tup [.d (C11.sqD q), .d (.int .i64 n)]) [])])]}) (subs := []) (ws := []) (ρ := []) (by kernel_rfl) ?_
  have k := dead26 s
  rw [h] at k
  repeat' (with_reducible first | exact True.intro | apply And.intro | (first | apply zA | apply zB | apply zC | apply zD | apply zE | apply zF | apply zG) <;> intro)
  all_goals first | exact k | exact k2 | rfl | skip
theorem write15 (s : Pp) (ok : C11.SqOk s.sq) (x : List UInt8) (hx : x.length < 100000000) : FnOK Tryz.prog 15 [.d (ppD s), .d (.str x)] [] (.tup [.d (ppD (pWrite s x).1), .d (.int .i64 (pWrite s x).2)]) [] := by
  unfold pWrite
  split
  · next h => exact write15y s x h
  · next h => exact write15n s x (by simpa using h) _ _ (C11.write10 s.sq ok x hx)
set_option maxRecDepth 100000 in
set_option maxHeartbeats 1000000 in
theorem free33w (s : Pp) (n : Int) (k2 : FnOK Tryz.prog 64 [.d (C12.rqD s.rq)] [] (.d (.int .i64 n)) []) : FnOK Tryz.prog 33 ([.d (ppD s)]) ([]) (.d (.int .i64 (IntKind.i64.wrap (n - s.rq.b)))) ([]) := by
  refine fnOK_wp (p := (FnOK Tryz.prog 64 [AV.d (C12.rqD s.rq)] [] (vI n) []) ∧ (rf (vI (IntKind.i64.wrap (n - s.rq.b)))) ∧ True) (h := {H := [(1, [(2, .call [] (.d (.int .i64 n)) [])])]}) (subs := []) (ws := []) (ρ := []) (by kernel_rfl) ?_
  repeat' (with_reducible first | exact True.intro | apply And.intro | (first | apply zA | apply zB | apply zC | apply zD | apply zE | apply zF | apply zG) <;> intro)
  all_goals first | exact k2 | rfl | skip
theorem free33 (s : Pp) (hb : C12.Rb s.rq) (h0 : 0 ≤ s.rq.b ∧ s.rq.b ≤ 1099511627776) : FnOK Tryz.prog 33 [.d (ppD s)] [] (.d (.int .i64 (pFree s))) [] := free33w s _ (C12.lim26 s.rq h0.1 h0.2 hb.r)
set_option maxRecDepth 100000 in
set_option maxHeartbeats 1000000 in
theorem num84 (f a : Int) : FnOK Tryz.prog 84 ([.d (.int .u32 f), .d (.int .i64 a)]) ([]) (.d (.int .u32 (pNum f a))) ([]) := by
  refine fnOK_wp (p := (FnOK Tryz.prog 58 [vW f, vI (IntKind.i64.wrap (a + (1 : Int)))] [] (vW (pNum f a)) []) ∧ (rf (vW (pNum f a))) ∧ True) (h := {G := [(58, gA (.d (.int .u32 (pNum f a))))]}) (subs := []) (ws := []) (ρ := []) (by kernel_rfl) ?_
  repeat' (with_reducible first | exact True.intro | apply And.intro | (first | apply zA | apply zB | apply zC | apply zD | apply zE | apply zF | apply zG) <;> intro)
  all_goals first | exact C13.add30 _ _ | rfl | skip
set_option maxRecDepth 100000 in
set_option maxHeartbeats 1000000 in
theorem place63 (f near n : Int) : FnOK Tryz.prog 63 ([.d (.int .u32 f), .d (.int .i64 near), .d (.int .u32 n)]) ([]) (.d (.int .i64 (pPlc f near n))) ([]) := by
  refine fnOK_wp (p := (FnOK Tryz.prog 58 [vW n, vI (-1 : Int)] [] (vW (C13.aAdd n (-1 : Int))) []) ∧ (FnOK Tryz.prog 96 [vI near, vW (IntKind.u32.wrap (C13.aAdd n (-1 : Int) - f))] [] (vI (pPlc f near n)) []) ∧ (rf (vI (pPlc f near n))) ∧ True) (h := {G := [(58, gA (.d (.int .u32 (C13.aAdd n (-1))))), (96, gA (.d (.int .i64 (pPlc f near n))))]}) (subs := []) (ws := []) (ρ := []) (by kernel_rfl) ?_
  repeat' (with_reducible first | exact True.intro | apply And.intro | (first | apply zA | apply zB | apply zC | apply zD | apply zE | apply zF | apply zG) <;> intro)
  all_goals first | exact C13.add30 _ _ | rfl | (refine C04.long16 _ _ ?_ ?_ <;> (rw [IntKind.wrap_u32]; omega)) | skip
set_option maxRecDepth 100000 in
set_option maxHeartbeats 1000000 in
theorem new22 (p e m : Int) (h : C13.nChk (C13.nNew p e m) = 0) : FnOK Tryz.prog 22 ([.d (.int .i64 p), .d (.int .i64 e), .d (.int .u32 m)]) ([]) (.tup [.d (ppD (pNew p e m)), .d (.int .i64 0)]) ([]) := by
  refine fnOK_wp (p := (FnOK Tryz.prog 38 [vI p, vI e, vW m] [] (AV.d (.agg [D.int .u8 (C13.nNew p e m).g, D.int .i64 (C13.nNew p e m).p, D.int .i64 (C13.nNew p e m).e, D.int .u32 (C13.nNew p e m).m, D.int .u32 (C13.nNew p e m).h])) []) ∧ (FnOK Tryz.prog 39 [AV.d (.agg [D.int .u8 (C13.nNew p e m).g, D.int .i64 (C13.nNew p e m).p, D.int .i64 (C13.nNew p e m).e, D.int .u32 (C13.nNew p e m).m, D.int .u32 (C13.nNew p e m).h])] [] (vI 0) []) ∧ (rf (D.bool false)) ∧ (FnOK Tryz.prog 40 [] [] (AV.d (.agg [D.int .i64 0, D.str [], D.int .i64 0, D.sl [], D.sl []])) []) ∧ (FnOK Tryz.prog 41 [] [] (AV.d (.agg [D.int .i64 0, D.str [], D.sl []])) []) ∧ (FnOK Tryz.prog 42 [] [] (AV.d (.agg [D.int .i64 0, D.int .i64 0, D.bool false, D.int .i64 0])) []) ∧ (FnOK Tryz.prog 43 [] [] (AV.d (.agg [D.int .i64 96, D.int .i64 1024, D.int .i64 0])) []) ∧ (AV.tup [AV.d (.agg [D.int .u8 (C13.nNew p e m).g, D.int .i64 (C13.nNew p e m).p, D.int .i64 (C13.nNew p e m).e, D.int .u32 (C13.nNew p e m).m, D.int .u32 (C13.nNew p e m).h, D.int .i64 0, D.str [], D.int .i64 0, D.sl [], D.sl [], D.int .i64 0, D.str [], D.sl [], D.int .i64 0, D.int .i64 0, D.bool false, D.int .i64 0, D.int .i64 96, D.int .i64 1024, D.int .i64 0, D.int .i64 4096, D.int .i64 0, D.int .i64 0, D.int .i64 0, D.int .i64 0, D.bool false]), vI 0] = AV.tup [AV.d (.agg [D.int .u8 (pNew p e m).sh.g, D.int .i64 (pNew p e m).sh.p, D.int .i64 (pNew p e m).sh.e, D.int .u32 (pNew p e m).sh.m, D.int .u32 (pNew p e m).sh.h, D.int .i64 (pNew p e m).sq.b, D.str (pNew p e m).sq.d, D.int .i64 (pNew p e m).sq.n, D.sl [], D.sl [], D.int .i64 (pNew p e m).rq.b, D.str (pNew p e m).rq.r, D.sl [], D.int .i64 (pNew p e m).rt.s, D.int .i64 (pNew p e m).rt.v, D.bool false, D.int .i64 (pNew p e m).rt.h, D.int .i64 (pNew p e m).wn.w, D.int .i64 (pNew p e m).wn.t, D.int .i64 (pNew p e m).wn.p, D.int .i64 (pNew p e m).li, D.int .i64 (pNew p e m).no, D.int .i64 (pNew p e m).he, D.int .i64 (pNew p e m).nx, D.int .i64 (pNew p e m).pr, D.bool false]), vI 0]) ∧ True) (h := {G := [(38, gA (.d (C13.ndD (C13.nNew p e m)))), (39, gA (.d (.int .i64 0))), (40, gA (.d (C11.sqD ⟨0, [], 0, [], []⟩))), (41, gA (.d (C12.rqD ⟨0, [], []⟩))), (42, gA (.d (C08.rD C08.rNew))), (43, gA (.d (C10.aD C10.aNew)))], H := [(3, [(1, .val (.bool false))])]}) (subs := []) (ws := []) (ρ := []) (by kernel_rfl) ?_
  have k := C13.chk14 (C13.nNew p e m)
  rw [h] at k
  repeat' (with_reducible first | exact True.intro | apply And.intro | (first | apply zA | apply zB | apply zC | apply zD | apply zE | apply zF | apply zG) <;> intro)
  all_goals first | exact k | exact C13.new12 _ _ _ | exact C08.new18 | exact C10.new21 | exact C11.new30 trivial trivial | exact C12.new30 | rfl | skip
set_option maxRecDepth 100000 in
set_option maxHeartbeats 1000000 in
theorem new22n (p e m : Int) (h : C13.nChk (C13.nNew p e m) = 8) : FnOK Tryz.prog 22 ([.d (.int .i64 p), .d (.int .i64 e), .d (.int .u32 m)]) ([]) (.tup [.d (ppD ⟨⟨0, 0, 0, 0, 0⟩, ⟨0, [], 0, [], []⟩, ⟨0, [], []⟩, ⟨0, 0, false, 0⟩, ⟨0, 0, 0⟩, 0, 0, 0, 0, 0, false⟩), .d (.int .i64 8)]) ([]) := by
  refine fnOK_wp (p := (FnOK Tryz.prog 38 [vI p, vI e, vW m] [] (AV.d (.agg [D.int .u8 (C13.nNew p e m).g, D.int .i64 (C13.nNew p e m).p, D.int .i64 (C13.nNew p e m).e, D.int .u32 (C13.nNew p e m).m, D.int .u32 (C13.nNew p e m).h])) []) ∧ (FnOK Tryz.prog 39 [AV.d (.agg [D.int .u8 (C13.nNew p e m).g, D.int .i64 (C13.nNew p e m).p, D.int .i64 (C13.nNew p e m).e, D.int .u32 (C13.nNew p e m).m, D.int .u32 (C13.nNew p e m).h])] [] (vI 8) []) ∧ (rf (D.bool true)) ∧ (rf (AV.tup [AV.d (pxD (0 : Int) (0 : Int) (0 : Int) (0 : Int) (0 : Int) (0 : Int) [] (0 : Int) [] [] (0 : Int) [] [] (0 : Int) (0 : Int) false (0 : Int) (0 : Int) (0 : Int) (0 : Int) (0 : Int) (0 : Int) (0 : Int) (0 : Int) (0 : Int) false), vI 8])) ∧ True) (h := {G := [(38, gA (.d (C13.ndD (C13.nNew p e m)))), (39, gA (.d (.int .i64 8)))], H := [(3, [(1, .val (.bool true))])]}) (subs := []) (ws := []) (ρ := []) (by kernel_rfl) ?_
  have k := C13.chk14 (C13.nNew p e m)
  rw [h] at k
  repeat' (with_reducible first | exact True.intro | apply And.intro | (first | apply zA | apply zB | apply zC | apply zD | apply zE | apply zF | apply zG) <;> intro)
  all_goals first | exact k | exact C13.new12 _ _ _ | rfl | skip
set_option maxRecDepth 100000 in
set_option maxHeartbeats 1000000 in
theorem read19y (s : Pp) (n : Int) (f : Int) (q : C12.Rq) (t : List UInt8) (k1 : FnOK Tryz.prog 33 [.d (ppD s)] [] (.d (.int .i64 f)) []) (k2 : FnOK Tryz.prog 34 [.d (C12.rqD s.rq), .d (.int .i64 n)] [] (.tup [.d (C12.rqD q), .d (.str t)]) []) (h : f < 48) (ht : t ≠ []) : FnOK Tryz.prog 19 ([.d (ppD s), .d (.int .i64 n)]) ([]) (.tup [.d (ppD { s with rq := q, du := true }), .d (.str t)]) ([]) := by
  refine fnOK_wp (p := (FnOK Tryz.prog 33 [AV.d (ppD s)] [] (vI f) []) ∧ (FnOK Tryz.prog 34 [AV.d (C12.rqD s.rq), vI n] [] (AV.tup [AV.d (C12.rqD q), vS t]) []) ∧ (D.bool (decide (f < (48 : Int))) = D.bool true) ∧ ((D.bool !t == []) = D.bool true) ∧ (rf (AV.tup [AV.d (ppD { s with rq := q, du := true }), vS t])) ∧ True) (h := {G := [(33, gA (.d (.int .i64 f))), (34, gA (.tup [.d (C12.rqD q), .d (.str t)]))], H := [(4, [(1, .val (.bool true)), (4, .val (.bool true))])]}) (subs := []) (ws := []) (ρ := []) (by kernel_rfl) ?_
  repeat' (with_reducible first | exact True.intro | apply And.intro | (first | apply zA | apply zB | apply zC | apply zD | apply zE | apply zF | apply zG) <;> intro)
  all_goals first | exact k1 | exact k2 | rfl | exact dyes (by assumption) | (refine congrArg D.bool ?_; simp_all; done) | (exfalso; simp_all; done) | (exfalso; omega) | skip
set_option maxRecDepth 100000 in
set_option maxHeartbeats 1000000 in
theorem read19n (s : Pp) (n : Int) (f : Int) (q : C12.Rq) (t : List UInt8) (k1 : FnOK Tryz.prog 33 [.d (ppD s)] [] (.d (.int .i64 f)) []) (k2 : FnOK Tryz.prog 34 [.d (C12.rqD s.rq), .d (.int .i64 n)] [] (.tup [.d (C12.rqD q), .d (.str t)]) []) (h : ¬(f < 48 ∧ t ≠ [])) : FnOK Tryz.prog 19 ([.d (ppD s), .d (.int .i64 n)]) ([]) (.tup [.d (ppD { s with rq := q }), .d (.str t)]) ([]) := by
  refine fnOK_wp (p := (FnOK Tryz.prog 33 [AV.d (ppD s)] [] (vI f) []) ∧ (FnOK Tryz.prog 34 [AV.d (C12.rqD s.rq), vI n] [] (AV.tup [AV.d (C12.rqD q), vS t]) []) ∧ (condP (decide (f < (48 : Int))) ((D.bool (decide (f < (48 : Int))) = D.bool true) ∧ ((D.bool !t == []) = D.bool false) ∧ (rf (AV.tup [AV.d (ppD { s with rq := q }), vS t])) ∧ True) ((D.bool (decide (f < (48 : Int))) = D.bool false) ∧ (rf (D.bool false)) ∧ (rf (AV.tup [AV.d (ppD { s with rq := q }), vS t])) ∧ True))) (h := {G := [(33, gA (.d (.int .i64 f))), (34, gA (.tup [.d (C12.rqD q), .d (.str t)]))], H := [(4, [(4, .val (.bool false))])]}) (subs := []) (ws := []) (ρ := []) (by kernel_rfl) ?_
  repeat' (with_reducible first | exact True.intro | apply And.intro | (first | apply zA | apply zB | apply zC | apply zD | apply zE | apply zF | apply zG) <;> intro)
  all_goals first | exact k1 | exact k2 | rfl | exact dyes (by assumption) | (refine congrArg D.bool ?_; simp_all; done) | (exfalso; simp_all; done) | (exfalso; omega) | skip
theorem read19 (s : Pp) (hb : C12.Rb s.rq) (h0 : 0 ≤ s.rq.b ∧ s.rq.b ≤ 1099511627776) (hl : s.rq.p.length < 1000000) (n : Int) : FnOK Tryz.prog 19 [.d (ppD s), .d (.int .i64 n)] [] (.tup [.d (ppD (pRead s n).1), .d (.str (pRead s n).2)]) [] := by
  have k1 := free33 s hb h0
  have k2 := C12.read13 s.rq hb hl n
  unfold pRead
  by_cases h : pFree s < 48 ∧ (C12.rRead s.rq n).2 ≠ []
  · rw [decide_eq_true h.1, decide_eq_true h.2, Bool.and_self, Bool.or_true]
    exact read19y s n _ _ _ k1 k2 h.1 h.2
  · have e : (decide (pFree s < 48) && decide ((C12.rRead s.rq n).2 ≠ [])) = false := by
      rw [← Bool.decide_and]; exact decide_eq_false h
    rw [e, Bool.or_false]
    exact read19n s n _ _ _ k1 k2 h
end Go.Proofs.YtalpfhpeaaocmaaGreat
end
section
set_option linter.unusedSimpArgs false
set_option linter.unusedVariables false
namespace Go.Proofs.YtalpfhpeaaocmaaGreat
open Sx Go.RowKit
def gNum : List D → Option (AV × List Ob) := fun | [.int _ f, .int _ a] => some (.d (.int .u32 (pNum f a)), []) | _ => none
def gPlc : List D → Option (AV × List Ob) := fun | [.int _ f, .int _ m, .int _ n] => some (.d (.int .i64 (pPlc f m n)), []) | _ => none
def nb (h : Int) (x : C06.Iv) : Int × Int := (pNum h x.1, pNum h x.2)
def sgZB : Ob := .box [.d (.int .u8 0), .d (.int .i64 0), .d (.int .i64 0), .d (.int .u32 0), .d (.int .u32 0), .d (.int .i64 0), .raw (.slice none 0 0), .d (.str [])]
def sgXB (s : Pp) (a f : Int) (t : List UInt8) (o : AV) : Ob := .box [.d (.int .u8 2), .d (.int .i64 s.sh.p), .d (.int .i64 s.sh.e), .d (.int .u32 (pNum s.sh.m a)), .d (.int .u32 (pNum s.sh.h s.rq.b)), .d (.int .i64 (min f 65535)), o, .d (.str t)]
def IB (s : Pp) (a f : Int) (t : List UInt8) (l : List C06.Iv) (j : Nat) : St := ⟨[(0, .ptr 0 0), (6, .ptr 3 0), (7, .d (.int .u32 s.sh.h)), (8, .ptr 1 0), (58, .d (.sl (l.map C06.ivD))), (59, .d (.int .i64 l.length)), (60, .d (.int .i64 j))], [(0, ppB s), (1, sgXB s a f t (.own 2 2)), (2, .row 2 (((l.take j).map (nb s.sh.h)).map bkD)), (3, sgZB)]⟩
set_option maxRecDepth 100000 in
set_option maxHeartbeats 1000000 in
theorem rB (s : Pp) (a f : Int) (t : List UInt8) (l : List C06.Iv) (hl : l.length < 1000000) (j : Nat) (x : C06.Iv) (hn : l[j]? = some x) : Runs Tryz.prog 1 (loopN Tryz.prog 55 0) (St.as (IB s a f t l j) 84) (.normal) (St.as (IB s a f t l (j+1)) 84) := by
  refine round_wp (p := condP (decide ((↑j : Int) < (↑l.length : Int))) (((0 : Int) ≤ (↑j : Int)) ∧ ((List.map C06.ivD l)[(↑j : Int).toNat]? = some (D.agg [D.int .i64 x.fst, D.int .i64 x.snd])) ∧ (FnOK Tryz.prog 84 [vW s.sh.h, vI x.fst] [] (vW (pNum s.sh.h x.fst)) []) ∧ (FnOK Tryz.prog 84 [vW s.sh.h, vI x.snd] [] (vW (pNum s.sh.h x.snd)) []) ∧ (((List.map bkD (List.map (nb s.sh.h) (List.take j l))).length + [D.agg (List.take 2 [D.int .u32 (pNum s.sh.h x.fst), D.int .u32 (pNum s.sh.h x.snd)])].length) * 8 ≤ 140737488355328) ∧ (∀ (e : D), e ∈ chunk 2 1 [D.int .u32 (pNum s.sh.h x.fst), D.int .u32 (pNum s.sh.h x.snd)] → e.cells.length = 2) ∧ (rf (AV.ptr 0 0)) ∧ (rf (AV.ptr 3 0)) ∧ (rf (vW s.sh.h)) ∧ (rf (AV.ptr 1 0)) ∧ (rf (vL (List.map C06.ivD l))) ∧ (rf (vI (↑l.length : Int))) ∧ (vI (IntKind.i64.wrap ((↑j : Int) + (1 : Int))) = vI (↑(j + 1) : Int)) ∧ (rf (ppB s)) ∧ (rf (Ob.box [vU 2, vI s.sh.p, vI s.sh.e, vW (pNum s.sh.m a), vW (pNum s.sh.h s.rq.b), vI (min f (65535 : Int)), AV.own 1608 2, vS t])) ∧ (Ob.row 2 (List.map bkD (List.map (nb s.sh.h) (List.take j l)) ++ [D.agg (List.take 2 [D.int .u32 (pNum s.sh.h x.fst), D.int .u32 (pNum s.sh.h x.snd)])]) = Ob.row 2 (List.map bkD (List.map (nb s.sh.h) (List.take (j + 1) l)))) ∧ (rf (Ob.box [vU 0, vI 0, vI 0, vW 0, vW 0, vI 0, AV.raw (Value.slice none 0 0), vS []])) ∧ True) (False)) (h := {els := [(58, .el (C06.ivD x))], G := [(84, gNum)]}) (subs := []) (ws := []) (ρ := []) (by kernel_rfl) ?_
  have hj := get_lt hn
  have hi := inc_i64 (j := j) (by omega)
  have e : (l.take (j + 1)).map (nb s.sh.h) = (l.take j).map (nb s.sh.h) ++ [nb s.sh.h x] := by rw [take_snoc hn, List.map_append]; rfl
  rw [hi, e, List.map_append]
  refine condP_t (by rw [decide_eq_true_eq]; omega) ?_
  repeat' (with_reducible first | exact True.intro | apply And.intro | (first | apply zA | apply zB | apply zC | apply zD | apply zE | apply zF | apply zG) <;> intro)
  all_goals first | exact num84 _ _ | exact el_map hn rfl | rfl | omega | (simp; omega) | (simp [chunk, bkD, D.cells]; done) | skip
set_option maxRecDepth 100000 in
set_option maxHeartbeats 1000000 in
theorem qB (s : Pp) (a f : Int) (t : List UInt8) (l : List C06.Iv) : Runs Tryz.prog 1 (loopN Tryz.prog 55 0) (St.as (IB s a f t l l.length) 84) (.exit 0) (St.as (IB s a f t l l.length) 84) := by
  refine round_wp (p := condP (decide ((↑l.length : Int) < (↑l.length : Int))) (False) ((rf (AV.ptr 0 0)) ∧ (rf (AV.ptr 3 0)) ∧ (rf (vW s.sh.h)) ∧ (rf (AV.ptr 1 0)) ∧ (rf (vL (List.map C06.ivD l))) ∧ (rf (vI (↑l.length : Int))) ∧ (rf (vI (↑l.length : Int))) ∧ (rf (ppB s)) ∧ (rf (Ob.box [vU 2, vI s.sh.p, vI s.sh.e, vW (pNum s.sh.m a), vW (pNum s.sh.h s.rq.b), vI (min f (65535 : Int)), AV.own 2 2, vS t])) ∧ (rf (Ob.row 2 (List.map bkD (List.map (nb s.sh.h) (List.take l.length l))))) ∧ (rf (Ob.box [vU 0, vI 0, vI 0, vW 0, vW 0, vI 0, AV.raw (Value.slice none 0 0), vS []])) ∧ True)) (h := {}) (subs := []) (ws := []) (ρ := []) (by kernel_rfl) ?_
  repeat' (with_reducible first | exact True.intro | apply And.intro | (first | apply zA | apply zB | apply zC | apply zD | apply zE | apply zF | apply zG) <;> intro)
  all_goals (try simp only [List.length_map, AV.d.injEq, D.int.injEq, D.bool.injEq, D.str.injEq, D.sl.injEq, true_and, and_true, decide_eq_true_eq, decide_eq_false_iff_not, decide_eq_decide])
  all_goals (try simp only [List.length_map] at *)
  all_goals first | rfl | omega
set_option maxRecDepth 100000 in
set_option maxHeartbeats 1000000 in
theorem bear55w (s : Pp) (a f : Int) (t : List UInt8) (l : List C06.Iv) (k1 : FnOK Tryz.prog 33 [.d (ppD s)] [] (.d (.int .i64 f)) []) (k2 : FnOK Tryz.prog 85 [.d (C12.rqD s.rq), .d (.int .i64 3)] [] (.d (.sl (l.map C06.ivD))) []) (hL : Loops Tryz.prog 1 (loopN Tryz.prog 55 0) ((IB s a f t l 0).as 84) (.exit 0) ((IB s a f t l l.length).as 84)) : FnOK Tryz.prog 55 ([.ptr 0 0, .d (.int .i64 a), .d (.str t)]) ([ppB s]) (.d (C13.sgD ⟨2, s.sh.p, s.sh.e, pNum s.sh.m a, pNum s.sh.h s.rq.b, min f 65535, (l.map (nb s.sh.h)).map bkD, t⟩)) ([ppB { s with du := false }]) := by
  refine fnOK_wp (p := (FnOK Tryz.prog 84 [vW s.sh.m, vI a] [] (vW (pNum s.sh.m a)) []) ∧ (FnOK Tryz.prog 84 [vW s.sh.h, vI s.rq.b] [] (vW (pNum s.sh.h s.rq.b)) []) ∧ (FnOK Tryz.prog 33 [AV.d (ppD s)] [] (vI f) []) ∧ (FnOK Tryz.prog 85 [AV.d (C12.rqD s.rq), vI 3] [] (vL (List.map C06.ivD l)) []) ∧ (rf (AV.ptr 0 0)) ∧ (rf (AV.ptr 1048 0)) ∧ (rf (vW s.sh.h)) ∧ (rf (AV.ptr 1064 0)) ∧ (rf (vL (List.map C06.ivD l))) ∧ (vI (↑(List.map C06.ivD l).length : Int) = vI (↑l.length : Int)) ∧ (rf (vI 0)) ∧ (rf (ppB s)) ∧ (rf (Ob.box [vU 2, vI s.sh.p, vI s.sh.e, vW (pNum s.sh.m a), vW (pNum s.sh.h s.rq.b), vI (min f (65535 : Int)), AV.own 500 2, vS t])) ∧ (rf (Ob.row 2 [])) ∧ (rf (Ob.box [vU 0, vI 0, vI 0, vW 0, vW 0, vI 0, AV.raw (Value.slice none 0 0), vS []])) ∧ (LoopsS Tryz.prog 1 (loopN Tryz.prog 55 0) (IB s a f t l 0) (Exit.exit 0) (IB s a f t l l.length) 84) ∧ (AV.d (.agg [D.int .u8 2, D.int .i64 s.sh.p, D.int .i64 s.sh.e, D.int .u32 (pNum s.sh.m a), D.int .u32 (pNum s.sh.h s.rq.b), D.int .i64 (min f (65535 : Int)), D.sl (List.map bkD (List.map (nb s.sh.h) (List.take l.length l))), D.str t]) = AV.d (.agg [D.int .u8 2, D.int .i64 s.sh.p, D.int .i64 s.sh.e, D.int .u32 (pNum s.sh.m a), D.int .u32 (pNum s.sh.h s.rq.b), D.int .i64 (min f (65535 : Int)), D.sl (List.map bkD (List.map (nb s.sh.h) l)), D.str t])) ∧ (rf (ppB { s with du := false })) ∧ True) (h := {G := [(84, gNum), (33, gA (.d (.int .i64 f))), (85, gA (.d (.sl (l.map C06.ivD))))]}) (subs := [⟨[.nilcell 1064 6 500 2], [], IB s a f t l 0, .exit 0, IB s a f t l l.length⟩]) (ws := []) (ρ := []) (by kernel_rfl) ?_
  simp only [List.length_map]
  repeat' (with_reducible first | exact True.intro | apply And.intro | (first | apply zA | apply zB | apply zC | apply zD | apply zE | apply zF | apply zG) <;> intro)
  all_goals first | exact k1 | exact k2 | exact hL | exact num84 _ _ | rfl | (rw [List.take_length]) | skip
theorem rBlk_len (s : C12.Rq) : (C12.rBlk s 3).length ≤ 3 := by
  unfold C12.rBlk
  split
  · rw [List.length_take]; omega
  · simp
theorem bear55 (s : Pp) (hb : C12.Rb s.rq) (h0 : 0 ≤ s.rq.b ∧ s.rq.b ≤ 1099511627776) (a : Int) (t : List UInt8) : FnOK Tryz.prog 55 [.ptr 0 0, .d (.int .i64 a), .d (.str t)] [ppB s] (.d (C13.sgD (pBear s a t))) [ppB { s with du := false }] := by
  have hl := rBlk_len s.rq
  exact bear55w s a (pFree s) t (C12.rBlk s.rq 3) (free33 s hb h0) (C12.blk24 s.rq hb 3) (loops_n (I := fun j => (IB s a (pFree s) t (C12.rBlk s.rq 3) j).as 84) (by simp) _ 0 (by omega) (fun j _ hj => rB s a _ t _ (by omega) j _ (get_of hj)) (qB s a _ t _))
def IK (s : Pp) (bs : List (Int × Int)) (cum : Int) (out : List C06.Iv) (j : Nat) : St := ⟨[(0, .ptr 0 0), (2, .d (.int .i64 cum)), (7, .d (.sl (out.map C06.ivD))), (8, .d (.int .i64 (max cum 0))), (9, .d (.int .u32 s.sh.m)), (21, .d (.sl (bs.map bkD))), (22, .d (.int .i64 bs.length)), (23, .d (.int .i64 j))], [(0, ppB s)]⟩
set_option maxRecDepth 100000 in
set_option maxHeartbeats 1000000 in
theorem rK (s : Pp) (bs : List (Int × Int)) (hl : bs.length < 1000000) (cum : Int) (out : List C06.Iv) (j : Nat) (b : Int × Int) (hn : bs[j]? = some b) (out' : List C06.Iv) (k1 : FnOK Tryz.prog 106 [.d (.sl (out.map C06.ivD)), .d (C06.ivD (pIval s cum b))] [] (.d (.sl (out'.map C06.ivD))) []) (h : pGood s cum (pIval s cum b) = true) : Runs Tryz.prog 1 (loopN Tryz.prog 89 0) (St.as (IK s bs cum out j) 65) (.normal) (St.as (IK s bs cum out' (j+1)) 65) := by
  refine round_wp (p := condP (decide ((↑j : Int) < (↑bs.length : Int))) (((0 : Int) ≤ (↑j : Int)) ∧ ((List.map bkD bs)[(↑j : Int).toNat]? = some (D.agg [D.int .u32 b.fst, D.int .u32 b.snd])) ∧ (FnOK Tryz.prog 63 [vW s.sh.m, vI (max cum (0 : Int)), vW b.fst] [] (vI (pPlc s.sh.m (max cum (0 : Int)) b.fst)) []) ∧ (FnOK Tryz.prog 63 [vW s.sh.m, vI (max cum (0 : Int)), vW b.snd] [] (vI (pPlc s.sh.m (max cum (0 : Int)) b.snd)) []) ∧ (D.bool (decide (pPlc s.sh.m (max cum (0 : Int)) b.fst ≥ cum)) = D.bool true) ∧ (rf (D.bool true)) ∧ (D.bool (decide (pPlc s.sh.m (max cum (0 : Int)) b.snd > pPlc s.sh.m (max cum (0 : Int)) b.fst)) = D.bool true) ∧ (rf (D.bool true)) ∧ (D.bool (decide (pPlc s.sh.m (max cum (0 : Int)) b.snd ≤ s.sq.n)) = D.bool true) ∧ (FnOK Tryz.prog 106 [vL (List.map C06.ivD out), AV.d (.agg [D.int .i64 (pPlc s.sh.m (max cum (0 : Int)) b.fst), D.int .i64 (pPlc s.sh.m (max cum (0 : Int)) b.snd)])] [] (vL (List.map C06.ivD out')) []) ∧ (rf (AV.ptr 0 0)) ∧ (rf (vI cum)) ∧ (rf (vL (List.map C06.ivD out'))) ∧ (rf (vI (max cum (0 : Int)))) ∧ (rf (vW s.sh.m)) ∧ (rf (vL (List.map bkD bs))) ∧ (rf (vI (↑bs.length : Int))) ∧ (vI (IntKind.i64.wrap ((↑j : Int) + (1 : Int))) = vI (↑(j + 1) : Int)) ∧ (rf (ppB s)) ∧ True) (False)) (h := {els := [(21, .el (bkD b))], G := [(63, gPlc), (106, gA (.d (.sl (out'.map C06.ivD))))], H := [(7, [(3, .val (.bool true)), (9, .val (.bool true)), (20, .val (.bool true))])]}) (subs := []) (ws := []) (ρ := []) (by kernel_rfl) ?_
  have hj := get_lt hn
  have hi := inc_i64 (j := j) (by omega)
  rw [hi]
  simp only [List.length_map]
  refine condP_t (by rw [decide_eq_true_eq]; omega) ?_
  unfold pGood pIval at h
  simp only [Bool.and_eq_true, decide_eq_true_eq] at h
  repeat' (with_reducible first | exact True.intro | apply And.intro | (first | apply zA | apply zB | apply zC | apply zD | apply zE | apply zF | apply zG) <;> intro)
  all_goals first | exact k1 | exact place63 _ _ _ | exact el_map hn rfl | rfl | omega | exact dyes (by omega) | (refine congrArg D.bool ?_; rw [decide_eq_true_eq]; omega) | skip
set_option maxRecDepth 100000 in
set_option maxHeartbeats 1000000 in
theorem sK (s : Pp) (bs : List (Int × Int)) (hl : bs.length < 1000000) (cum : Int) (out : List C06.Iv) (j : Nat) (b : Int × Int) (hn : bs[j]? = some b) (h : pGood s cum (pIval s cum b) = false) : Runs Tryz.prog 1 (loopN Tryz.prog 89 0) (St.as (IK s bs cum out j) 65) (.normal) (St.as (IK s bs cum out (j+1)) 65) := by
  refine round_wp (p := condP (decide ((↑j : Int) < (↑bs.length : Int))) (((0 : Int) ≤ (↑j : Int)) ∧ ((List.map bkD bs)[(↑j : Int).toNat]? = some (D.agg [D.int .u32 b.fst, D.int .u32 b.snd])) ∧ (FnOK Tryz.prog 63 [vW s.sh.m, vI (max cum (0 : Int)), vW b.fst] [] (vI (pPlc s.sh.m (max cum (0 : Int)) b.fst)) []) ∧ (FnOK Tryz.prog 63 [vW s.sh.m, vI (max cum (0 : Int)), vW b.snd] [] (vI (pPlc s.sh.m (max cum (0 : Int)) b.snd)) []) ∧ (condP (decide (pPlc s.sh.m (max cum (0 : Int)) b.fst ≥ cum)) (condP (decide (pPlc s.sh.m (max cum (0 : Int)) b.snd > pPlc s.sh.m (max cum (0 : Int)) b.fst)) ((D.bool (decide (pPlc s.sh.m (max cum (0 : Int)) b.fst ≥ cum)) = D.bool true) ∧ (D.bool (decide (pPlc s.sh.m (max cum (0 : Int)) b.snd > pPlc s.sh.m (max cum (0 : Int)) b.fst)) = D.bool true) ∧ (D.bool (decide (pPlc s.sh.m (max cum (0 : Int)) b.snd ≤ s.sq.n)) = D.bool false) ∧ (rf (AV.ptr 0 0)) ∧ (rf (vI cum)) ∧ (rf (vL (List.map C06.ivD out))) ∧ (rf (vI (max cum (0 : Int)))) ∧ (rf (vW s.sh.m)) ∧ (rf (vL (List.map bkD bs))) ∧ (rf (vI (↑bs.length : Int))) ∧ (vI (IntKind.i64.wrap ((↑j : Int) + (1 : Int))) = vI (↑(j + 1) : Int)) ∧ (rf (ppB s)) ∧ True) ((D.bool (decide (pPlc s.sh.m (max cum (0 : Int)) b.fst ≥ cum)) = D.bool true) ∧ (D.bool (decide (pPlc s.sh.m (max cum (0 : Int)) b.snd > pPlc s.sh.m (max cum (0 : Int)) b.fst)) = D.bool false) ∧ (rf (AV.ptr 0 0)) ∧ (rf (vI cum)) ∧ (rf (vL (List.map C06.ivD out))) ∧ (rf (vI (max cum (0 : Int)))) ∧ (rf (vW s.sh.m)) ∧ (rf (vL (List.map bkD bs))) ∧ (rf (vI (↑bs.length : Int))) ∧ (vI (IntKind.i64.wrap ((↑j : Int) + (1 : Int))) = vI (↑(j + 1) : Int)) ∧ (rf (ppB s)) ∧ True)) ((D.bool (decide (pPlc s.sh.m (max cum (0 : Int)) b.fst ≥ cum)) = D.bool false) ∧ (rf (D.bool false)) ∧ (rf (AV.ptr 0 0)) ∧ (rf (vI cum)) ∧ (rf (vL (List.map C06.ivD out))) ∧ (rf (vI (max cum (0 : Int)))) ∧ (rf (vW s.sh.m)) ∧ (rf (vL (List.map bkD bs))) ∧ (rf (vI (↑bs.length : Int))) ∧ (vI (IntKind.i64.wrap ((↑j : Int) + (1 : Int))) = vI (↑(j + 1) : Int)) ∧ (rf (ppB s)) ∧ True))) (False)) (h := {els := [(21, .el (bkD b))], G := [(63, gPlc), (106, gA (.d (.sl [])))], H := [(7, [(20, .val (.bool false))])]}) (subs := []) (ws := []) (ρ := []) (by kernel_rfl) ?_
  have hj := get_lt hn
  have hi := inc_i64 (j := j) (by omega)
  rw [hi]
  simp only [List.length_map]
  refine condP_t (by rw [decide_eq_true_eq]; omega) ?_
  unfold pGood pIval at h
  simp only [Bool.and_eq_false_iff, decide_eq_false_iff_not] at h
  repeat' (with_reducible first | exact True.intro | apply And.intro | (first | apply zA | apply zB | apply zC | apply zD | apply zE | apply zF | apply zG) <;> intro)
  all_goals first | exact place63 _ _ _ | exact el_map hn rfl | rfl | exact dyes (by assumption) | exact dno (by assumption) | (exfalso; omega) | (refine congrArg D.bool ?_; rw [decide_eq_false_iff_not]; omega) | omega | skip
set_option maxRecDepth 100000 in
set_option maxHeartbeats 1000000 in
theorem qK (s : Pp) (bs : List (Int × Int)) (cum : Int) (out : List C06.Iv) : Runs Tryz.prog 1 (loopN Tryz.prog 89 0) (St.as (IK s bs cum out bs.length) 65) (.exit 0) (St.as (IK s bs cum out bs.length) 65) := by
  refine round_wp (p := condP (decide ((↑bs.length : Int) < (↑bs.length : Int))) (False) ((rf (AV.ptr 0 0)) ∧ (rf (vI cum)) ∧ (rf (vL (List.map C06.ivD out))) ∧ (rf (vI (max cum (0 : Int)))) ∧ (rf (vW s.sh.m)) ∧ (rf (vL (List.map bkD bs))) ∧ (rf (vI (↑bs.length : Int))) ∧ (rf (vI (↑bs.length : Int))) ∧ (rf (ppB s)) ∧ True)) (h := {}) (subs := []) (ws := []) (ρ := []) (by kernel_rfl) ?_
  repeat' (with_reducible first | exact True.intro | apply And.intro | (first | apply zA | apply zB | apply zC | apply zD | apply zE | apply zF | apply zG) <;> intro)
  all_goals (try simp only [List.length_map, AV.d.injEq, D.int.injEq, D.bool.injEq, D.str.injEq, D.sl.injEq, true_and, and_true, decide_eq_true_eq, decide_eq_false_iff_not, decide_eq_decide])
  all_goals (try simp only [List.length_map] at *)
  all_goals first | rfl | omega
set_option maxRecDepth 100000 in
set_option maxHeartbeats 1000000 in
theorem blocks89w (s : Pp) (bs : List (Int × Int)) (cum : Int) (out : List C06.Iv) (hL : Loops Tryz.prog 1 (loopN Tryz.prog 89 0) ((IK s bs cum [] 0).as 65) (.exit 0) ((IK s bs cum out bs.length).as 65)) : FnOK Tryz.prog 89 ([.ptr 0 0, .d (.sl (bs.map bkD)), .d (.int .i64 cum)]) ([ppB s]) (.d (.sl (out.map C06.ivD))) ([ppB s]) := by
  refine fnOK_wp (p := (rf (AV.ptr 0 0)) ∧ (rf (vI cum)) ∧ (rf (vL [])) ∧ (rf (vI (max cum (0 : Int)))) ∧ (rf (vW s.sh.m)) ∧ (rf (vL (List.map bkD bs))) ∧ (vI (↑(List.map bkD bs).length : Int) = vI (↑bs.length : Int)) ∧ (rf (vI 0)) ∧ (rf (ppB s)) ∧ (LoopsS Tryz.prog 1 (loopN Tryz.prog 89 0) (IK s bs cum [] 0) (Exit.exit 0) (IK s bs cum out bs.length) 65) ∧ (rf (vL (List.map C06.ivD out))) ∧ (rf (ppB s)) ∧ True) (h := {}) (subs := [⟨[.nild 7], [], IK s bs cum [] 0, .exit 0, IK s bs cum out bs.length⟩]) (ws := []) (ρ := []) (by kernel_rfl) ?_
  simp only [List.length_map]
  repeat' (with_reducible first | exact True.intro | apply And.intro | (first | apply zA | apply zB | apply zC | apply zD | apply zE | apply zF | apply zG) <;> intro)
  all_goals first | exact hL | rfl | skip
theorem stA_len (x : C06.Iv) : ∀ (l : List C06.Iv) (p : List C06.Iv × Bool), (l.foldl (C06.stA x) p).1.length ≤ p.1.length + l.length + (if (l.foldl (C06.stA x) p).2 = true ∧ p.2 = false then 1 else 0) ∧ (p.2 = true → (l.foldl (C06.stA x) p).2 = true)
  | [], p => by simp
  | y :: l, p => by
    obtain ⟨h1, h2⟩ := stA_len x l (C06.stA x p y)
    rw [List.foldl_cons, List.length_cons]
    have e : ((C06.stA x p y).1.length ≤ p.1.length + 1 ∧ (C06.stA x p y).2 = p.2) ∨ ((C06.stA x p y).1.length ≤ p.1.length + 2 ∧ (C06.stA x p y).2 = true ∧ p.2 = false) := by
      unfold C06.stA
      split
      · next h =>
        refine .inr ⟨?_, rfl, h.1⟩
        have a := C06.pPut_len p.1 x
        have b := C06.pPut_len (C06.pPut p.1 x) y
        show (C06.pPut (C06.pPut p.1 x) y).length ≤ _
        omega
      · exact .inl ⟨C06.pPut_len p.1 y, rfl⟩
    rcases e with ⟨e1, e2⟩ | ⟨e1, e2, e3⟩
    · rw [e2] at h1 h2
      exact ⟨by omega, h2⟩
    · rw [e2] at h1 h2
      have h3 := h2 rfl
      rw [h3, e3]
      simp at h1
      simp
      omega
theorem rAdd_len (s : List C06.Iv) (x : C06.Iv) : (C06.rAdd s x).length ≤ s.length + 1 := by
  unfold C06.rAdd
  split
  · omega
  · unfold C06.pAdd C06.pAddF
    obtain ⟨h1, h2⟩ := stA_len x s ([], false)
    split
    · next h => rw [h] at h1; simp at h1; omega
    · next h =>
      have := C06.pPut_len (s.foldl (C06.stA x) ([], false)).1 x
      rw [if_neg (by simp [h])] at h1
      simp at h1
      omega
theorem pBlocks_len (s : Pp) (cum : Int) : ∀ (bs : List (Int × Int)) (l : List C06.Iv), (bs.foldl (blkS s cum) l).length ≤ l.length + bs.length
  | [], l => by simp
  | b :: bs, l => by
    have h := pBlocks_len s cum bs (blkS s cum l b)
    have h2 : (blkS s cum l b).length ≤ l.length + 1 := by
      unfold blkS
      split
      · exact rAdd_len _ _
      · omega
    rw [List.foldl_cons, List.length_cons]
    omega
theorem blocks89 (s : Pp) (bs : List (Int × Int)) (hl : bs.length < 100000) (cum : Int) : FnOK Tryz.prog 89 [.ptr 0 0, .d (.sl (bs.map bkD)), .d (.int .i64 cum)] [ppB s] (.d (.sl ((pBlocks s bs cum).map C06.ivD))) [ppB s] := by
  refine blocks89w s bs cum (pBlocks s bs cum) ?_
  have h := loops_n (P := Tryz.prog) (k := 1) (c := loopN Tryz.prog 89 0) (e := .exit 0) (I := fun j => (IK s bs cum (pBlocks s (bs.take j) cum) j).as 65) (by simp) bs.length 0 (by omega) (fun j _ hj => by
    have hn := get_of hj
    have e : pBlocks s (bs.take (j + 1)) cum = blkS s cum (pBlocks s (bs.take j) cum) bs[j] := by
      unfold pBlocks; rw [take_snoc hn, List.foldl_append]; rfl
    have hlen := pBlocks_len s cum (bs.take j) []
    rw [e]
    unfold blkS
    by_cases hg : pGood s cum (pIval s cum bs[j]) = true
    · rw [if_pos hg]
      exact rK s bs (by omega) cum _ j _ hn _ (C06.add11 _ (by unfold pBlocks; rw [List.length_take] at hlen; simp at hlen; omega) _) hg
    · rw [if_neg hg]
      exact sK s bs (by omega) cum _ j _ hn (by simpa using hg)) (by rw [List.take_length]; exact qK s bs cum _)
  exact h
end Go.Proofs.YtalpfhpeaaocmaaGreat
end
section
set_option linter.unusedSimpArgs false
set_option linter.unusedVariables false
namespace Go.Proofs.YtalpfhpeaaocmaaGreat
open Sx Go.RowKit
def pRt (rt rt1 : C08.Rtt) (r : C11.Rp) : C08.Rtt := if r.s ≥ 0 then rt1 else rt
def pWn (wn wa wl : C10.Aim) (r : C11.Rp) : C10.Aim := if r.l = true then wl else if r.a > 0 then wa else wn
theorem pRt_y {rt rt1 : C08.Rtt} {r : C11.Rp} (h : r.s ≥ 0) : pRt rt rt1 r = rt1 := if_pos h
theorem pRt_n {rt rt1 : C08.Rtt} {r : C11.Rp} (h : ¬r.s ≥ 0) : pRt rt rt1 r = rt := if_neg h
theorem pWn_l {wn wa wl : C10.Aim} {r : C11.Rp} (h : r.l = true) : pWn wn wa wl r = wl := if_pos h
theorem pWn_a {wn wa wl : C10.Aim} {r : C11.Rp} (h : r.l = false) (g : r.a > 0) : pWn wn wa wl r = wa := by unfold pWn; rw [if_neg (by simp [h]), if_pos g]
theorem pWn_n {wn wa wl : C10.Aim} {r : C11.Rp} (h : r.l = false) (g : ¬r.a > 0) : pWn wn wa wl r = wn := by unfold pWn; rw [if_neg (by simp [h]), if_neg g]
set_option maxRecDepth 100000 in
set_option maxHeartbeats 1000000 in
theorem acked61y (s s' : Pp) (x : C13.Sg) (bs : List (Int × Int)) (hk : x.k = bs.map bkD) (cum li : Int) (hcum : cum = pCum s x) (bl : List C06.Iv) (q : C11.Sq) (r : C11.Rp) (rt1 : C08.Rtt) (wa wl : C10.Aim) (hz : s' = { s with li := li, sq := q, rt := pRt s.rt rt1 r, wn := pWn s.wn wa wl r }) (k1 : FnOK Tryz.prog 89 [.ptr 0 0, .d (.sl (bs.map bkD)), .d (.int .i64 cum)] [ppB { s with li := li }] (.d (.sl (bl.map C06.ivD))) [ppB { s with li := li }]) (k2 : FnOK Tryz.prog 88 [.d (C11.sqD s.sq), .d (.int .i64 cum), .d (.sl (bl.map C06.ivD)), .d (.int .i64 s.no)] [] (.tup [.d (C11.sqD q), .d (C11.rpD r)]) []) (k3 : FnOK Tryz.prog 90 [.d (C08.rD s.rt), .d (.int .i64 r.s)] [] (.d (C08.rD rt1)) []) (k4 : FnOK Tryz.prog 91 [.d (C10.aD s.wn), .d (.int .i64 r.a)] [] (.d (C10.aD wa)) []) (k5 : FnOK Tryz.prog 72 [.d (C10.aD (if r.a > 0 then wa else s.wn))] [] (.d (C10.aD wl)) []) (h : s.sq.b ≤ cum ∧ cum ≤ s.sq.n) (hl : li = max s.li (IntKind.i64.wrap (cum + x.w))) : FnOK Tryz.prog 61 ([.ptr 0 0, .d (C13.sgD x)]) ([ppB s]) (.tup []) ([ppB s']) := by
  refine fnOK_wp (p := (FnOK Tryz.prog 63 [vW s.sh.m, vI s.sq.b, vW x.a] [] (vI cum) []) ∧ (D.bool (decide (s.sq.b ≤ cum)) = D.bool true) ∧ (D.bool (decide (cum ≤ s.sq.n)) = D.bool true) ∧ (D.int .i64 (max s.li (IntKind.i64.wrap (cum + x.w))) = D.int .i64 li) ∧ (FnOK Tryz.prog 89 [AV.ptr 0 0, vL x.k, vI cum] [ppB { s with li := li }] (vL (List.map C06.ivD bl)) [ppB { s with li := li }]) ∧ (FnOK Tryz.prog 88 [AV.d (C11.sqD s.sq), vI cum, vL (List.map C06.ivD bl), vI s.no] [] (AV.tup [AV.d (C11.sqD q), AV.d (.agg [D.int .i64 r.a, D.int .i64 r.s, D.bool r.l])]) []) ∧ (condP (decide (r.s ≥ (0 : Int))) ((FnOK Tryz.prog 90 [AV.d (C08.rD s.rt), vI r.s] [] (AV.d (C08.rD rt1)) []) ∧ (condP (decide (r.a > (0 : Int))) ((FnOK Tryz.prog 91 [AV.d (C10.aD s.wn), vI r.a] [] (AV.d (C10.aD wa)) []) ∧ (condP (r.l) ((FnOK Tryz.prog 72 [AV.d (C10.aD wa)] [] (AV.d (C10.aD wl)) []) ∧ (rf (AV.tup [])) ∧ (pxB s.sh.g s.sh.p s.sh.e s.sh.m s.sh.h q.b q.d q.n q.fl q.cm s.rq.b s.rq.r s.rq.p rt1.s rt1.v rt1.k rt1.h wl.w wl.t wl.p li s.no s.he s.nx s.pr s.du = ppB s') ∧ True) ((rf (AV.tup [])) ∧ (pxB s.sh.g s.sh.p s.sh.e s.sh.m s.sh.h q.b q.d q.n q.fl q.cm s.rq.b s.rq.r s.rq.p rt1.s rt1.v rt1.k rt1.h wa.w wa.t wa.p li s.no s.he s.nx s.pr s.du = ppB s') ∧ True))) (condP (r.l) ((FnOK Tryz.prog 72 [AV.d (C10.aD s.wn)] [] (AV.d (C10.aD wl)) []) ∧ (rf (AV.tup [])) ∧ (pxB s.sh.g s.sh.p s.sh.e s.sh.m s.sh.h q.b q.d q.n q.fl q.cm s.rq.b s.rq.r s.rq.p rt1.s rt1.v rt1.k rt1.h wl.w wl.t wl.p li s.no s.he s.nx s.pr s.du = ppB s') ∧ True) ((rf (AV.tup [])) ∧ (pxB s.sh.g s.sh.p s.sh.e s.sh.m s.sh.h q.b q.d q.n q.fl q.cm s.rq.b s.rq.r s.rq.p rt1.s rt1.v rt1.k rt1.h s.wn.w s.wn.t s.wn.p li s.no s.he s.nx s.pr s.du = ppB s') ∧ True)))) (condP (decide (r.a > (0 : Int))) ((FnOK Tryz.prog 91 [AV.d (C10.aD s.wn), vI r.a] [] (AV.d (C10.aD wa)) []) ∧ (condP (r.l) ((FnOK Tryz.prog 72 [AV.d (C10.aD wa)] [] (AV.d (C10.aD wl)) []) ∧ (rf (AV.tup [])) ∧ (pxB s.sh.g s.sh.p s.sh.e s.sh.m s.sh.h q.b q.d q.n q.fl q.cm s.rq.b s.rq.r s.rq.p s.rt.s s.rt.v s.rt.k s.rt.h wl.w wl.t wl.p li s.no s.he s.nx s.pr s.du = ppB s') ∧ True) ((rf (AV.tup [])) ∧ (pxB s.sh.g s.sh.p s.sh.e s.sh.m s.sh.h q.b q.d q.n q.fl q.cm s.rq.b s.rq.r s.rq.p s.rt.s s.rt.v s.rt.k s.rt.h wa.w wa.t wa.p li s.no s.he s.nx s.pr s.du = ppB s') ∧ True))) (condP (r.l) ((FnOK Tryz.prog 72 [AV.d (C10.aD s.wn)] [] (AV.d (C10.aD wl)) []) ∧ (rf (AV.tup [])) ∧ (pxB s.sh.g s.sh.p s.sh.e s.sh.m s.sh.h q.b q.d q.n q.fl q.cm s.rq.b s.rq.r s.rq.p s.rt.s s.rt.v s.rt.k s.rt.h wl.w wl.t wl.p li s.no s.he s.nx s.pr s.du = ppB s') ∧ True) ((rf (AV.tup [])) ∧ (ppB { s with sq := q, li := li } = ppB s') ∧ True))))) (h := {H := [(2, [(8, .val (.bool true)), (17, .val (.bool true))]), (3, [(10, .val (.int .i64 li))]), (4, [(10, .look [0] (.d (.sl (bl.map C06.ivD))))])], G := [(63, gA (.d (.int .i64 cum))), (88, gA (.tup [.d (C11.sqD q), .d (C11.rpD r)])), (90, gA (.d (C08.rD rt1))), (91, gA (.d (C10.aD wa))), (72, gA (.d (C10.aD wl)))]}) (subs := []) (ws := []) (ρ := []) (by kernel_rfl) ?_
  have k0 := place63 s.sh.m s.sq.b x.a
  rw [show pPlc s.sh.m s.sq.b x.a = cum from hcum.symm] at k0
  repeat' (with_reducible first | exact True.intro | apply And.intro | (first | apply zA | apply zB | apply zC | apply zD | apply zE | apply zF | apply zG) <;> intro)
  all_goals first | exact k0 | exact k1 | exact k2 | exact k3 | exact k4 | with_reducible rfl | (rename_i ha _; rw [if_pos ha] at k5; exact k5) | (rename_i ha _; rw [if_neg ha] at k5; exact k5) | exact hk | exact congrArg D.sl hk | exact congrArg (D.int .i64) hl.symm | exact dyes (by omega) | exact dno (by omega) | (refine congrArg D.bool ?_; rw [decide_eq_false_iff_not]; omega) | (exfalso; omega) | (rw [← hk] at k1; subst hl; exact k1) | skip
  all_goals (subst hz; first | rw [pRt_y (by assumption)] | rw [pRt_n (by assumption)])
  all_goals first | rw [pWn_l (by assumption)] | rw [pWn_a (by assumption) (by assumption)] | rw [pWn_n (by assumption) (by assumption)]
  all_goals (subst hl; rfl)
set_option maxRecDepth 100000 in
set_option maxHeartbeats 1000000 in
theorem acked61n (s s' : Pp) (x : C13.Sg) (bs : List (Int × Int)) (hk : x.k = bs.map bkD) (cum li : Int) (hcum : cum = pCum s x) (bl : List C06.Iv) (q : C11.Sq) (r : C11.Rp) (rt1 : C08.Rtt) (wa wl : C10.Aim) (hz : s' = { s with li := li, sq := q, rt := pRt s.rt rt1 r, wn := pWn s.wn wa wl r }) (k1 : FnOK Tryz.prog 89 [.ptr 0 0, .d (.sl (bs.map bkD)), .d (.int .i64 cum)] [ppB { s with li := li }] (.d (.sl (bl.map C06.ivD))) [ppB { s with li := li }]) (k2 : FnOK Tryz.prog 88 [.d (C11.sqD s.sq), .d (.int .i64 cum), .d (.sl (bl.map C06.ivD)), .d (.int .i64 s.no)] [] (.tup [.d (C11.sqD q), .d (C11.rpD r)]) []) (k3 : FnOK Tryz.prog 90 [.d (C08.rD s.rt), .d (.int .i64 r.s)] [] (.d (C08.rD rt1)) []) (k4 : FnOK Tryz.prog 91 [.d (C10.aD s.wn), .d (.int .i64 r.a)] [] (.d (C10.aD wa)) []) (k5 : FnOK Tryz.prog 72 [.d (C10.aD (if r.a > 0 then wa else s.wn))] [] (.d (C10.aD wl)) []) (h : ¬s.sq.b ≤ cum) (hl : li = s.li) : FnOK Tryz.prog 61 ([.ptr 0 0, .d (C13.sgD x)]) ([ppB s]) (.tup []) ([ppB s']) := by
  refine fnOK_wp (p := (FnOK Tryz.prog 63 [vW s.sh.m, vI s.sq.b, vW x.a] [] (vI cum) []) ∧ (D.bool (decide (s.sq.b ≤ cum)) = D.bool false) ∧ (FnOK Tryz.prog 89 [AV.ptr 0 0, vL x.k, vI cum] [ppB s] (vL (List.map C06.ivD bl)) [ppB s]) ∧ (FnOK Tryz.prog 88 [AV.d (C11.sqD s.sq), vI cum, vL (List.map C06.ivD bl), vI s.no] [] (AV.tup [AV.d (C11.sqD q), AV.d (.agg [D.int .i64 r.a, D.int .i64 r.s, D.bool r.l])]) []) ∧ (condP (decide (r.s ≥ (0 : Int))) ((FnOK Tryz.prog 90 [AV.d (C08.rD s.rt), vI r.s] [] (AV.d (C08.rD rt1)) []) ∧ (condP (decide (r.a > (0 : Int))) ((FnOK Tryz.prog 91 [AV.d (C10.aD s.wn), vI r.a] [] (AV.d (C10.aD wa)) []) ∧ (condP (r.l) ((FnOK Tryz.prog 72 [AV.d (C10.aD wa)] [] (AV.d (C10.aD wl)) []) ∧ (rf (AV.tup [])) ∧ (pxB s.sh.g s.sh.p s.sh.e s.sh.m s.sh.h q.b q.d q.n q.fl q.cm s.rq.b s.rq.r s.rq.p rt1.s rt1.v rt1.k rt1.h wl.w wl.t wl.p s.li s.no s.he s.nx s.pr s.du = ppB s') ∧ True) ((rf (AV.tup [])) ∧ (pxB s.sh.g s.sh.p s.sh.e s.sh.m s.sh.h q.b q.d q.n q.fl q.cm s.rq.b s.rq.r s.rq.p rt1.s rt1.v rt1.k rt1.h wa.w wa.t wa.p s.li s.no s.he s.nx s.pr s.du = ppB s') ∧ True))) (condP (r.l) ((FnOK Tryz.prog 72 [AV.d (C10.aD s.wn)] [] (AV.d (C10.aD wl)) []) ∧ (rf (AV.tup [])) ∧ (pxB s.sh.g s.sh.p s.sh.e s.sh.m s.sh.h q.b q.d q.n q.fl q.cm s.rq.b s.rq.r s.rq.p rt1.s rt1.v rt1.k rt1.h wl.w wl.t wl.p s.li s.no s.he s.nx s.pr s.du = ppB s') ∧ True) ((rf (AV.tup [])) ∧ (pxB s.sh.g s.sh.p s.sh.e s.sh.m s.sh.h q.b q.d q.n q.fl q.cm s.rq.b s.rq.r s.rq.p rt1.s rt1.v rt1.k rt1.h s.wn.w s.wn.t s.wn.p s.li s.no s.he s.nx s.pr s.du = ppB s') ∧ True)))) (condP (decide (r.a > (0 : Int))) ((FnOK Tryz.prog 91 [AV.d (C10.aD s.wn), vI r.a] [] (AV.d (C10.aD wa)) []) ∧ (condP (r.l) ((FnOK Tryz.prog 72 [AV.d (C10.aD wa)] [] (AV.d (C10.aD wl)) []) ∧ (rf (AV.tup [])) ∧ (ppB { s with sq := q, wn := wl } = ppB s') ∧ True) ((rf (AV.tup [])) ∧ (ppB { s with sq := q, wn := wa } = ppB s') ∧ True))) (condP (r.l) ((FnOK Tryz.prog 72 [AV.d (C10.aD s.wn)] [] (AV.d (C10.aD wl)) []) ∧ (rf (AV.tup [])) ∧ (ppB { s with sq := q, wn := wl } = ppB s') ∧ True) ((rf (AV.tup [])) ∧ (ppB { s with sq := q } = ppB s') ∧ True))))) (h := {H := [(2, [(8, .val (.bool false))]), (4, [(10, .look [0] (.d (.sl (bl.map C06.ivD))))])], G := [(63, gA (.d (.int .i64 cum))), (88, gA (.tup [.d (C11.sqD q), .d (C11.rpD r)])), (90, gA (.d (C08.rD rt1))), (91, gA (.d (C10.aD wa))), (72, gA (.d (C10.aD wl)))]}) (subs := []) (ws := []) (ρ := []) (by kernel_rfl) ?_
  have k0 := place63 s.sh.m s.sq.b x.a
  rw [show pPlc s.sh.m s.sq.b x.a = cum from hcum.symm] at k0
  repeat' (with_reducible first | exact True.intro | apply And.intro | (first | apply zA | apply zB | apply zC | apply zD | apply zE | apply zF | apply zG) <;> intro)
  all_goals first | exact k0 | exact k1 | exact k2 | exact k3 | exact k4 | with_reducible rfl | (rename_i ha _; rw [if_pos ha] at k5; exact k5) | (rename_i ha _; rw [if_neg ha] at k5; exact k5) | exact hk | exact congrArg D.sl hk | exact congrArg (D.int .i64) hl.symm | exact dyes (by omega) | exact dno (by omega) | (refine congrArg D.bool ?_; rw [decide_eq_false_iff_not]; omega) | (exfalso; omega) | (rw [← hk] at k1; subst hl; exact k1) | skip
  all_goals (subst hz; first | rw [pRt_y (by assumption)] | rw [pRt_n (by assumption)])
  all_goals first | rw [pWn_l (by assumption)] | rw [pWn_a (by assumption) (by assumption)] | rw [pWn_n (by assumption) (by assumption)]
  all_goals (subst hl; rfl)
set_option maxRecDepth 100000 in
set_option maxHeartbeats 1000000 in
theorem acked61m (s s' : Pp) (x : C13.Sg) (bs : List (Int × Int)) (hk : x.k = bs.map bkD) (cum li : Int) (hcum : cum = pCum s x) (bl : List C06.Iv) (q : C11.Sq) (r : C11.Rp) (rt1 : C08.Rtt) (wa wl : C10.Aim) (hz : s' = { s with li := li, sq := q, rt := pRt s.rt rt1 r, wn := pWn s.wn wa wl r }) (k1 : FnOK Tryz.prog 89 [.ptr 0 0, .d (.sl (bs.map bkD)), .d (.int .i64 cum)] [ppB { s with li := li }] (.d (.sl (bl.map C06.ivD))) [ppB { s with li := li }]) (k2 : FnOK Tryz.prog 88 [.d (C11.sqD s.sq), .d (.int .i64 cum), .d (.sl (bl.map C06.ivD)), .d (.int .i64 s.no)] [] (.tup [.d (C11.sqD q), .d (C11.rpD r)]) []) (k3 : FnOK Tryz.prog 90 [.d (C08.rD s.rt), .d (.int .i64 r.s)] [] (.d (C08.rD rt1)) []) (k4 : FnOK Tryz.prog 91 [.d (C10.aD s.wn), .d (.int .i64 r.a)] [] (.d (C10.aD wa)) []) (k5 : FnOK Tryz.prog 72 [.d (C10.aD (if r.a > 0 then wa else s.wn))] [] (.d (C10.aD wl)) []) (h : s.sq.b ≤ cum ∧ ¬cum ≤ s.sq.n) (hl : li = s.li) : FnOK Tryz.prog 61 ([.ptr 0 0, .d (C13.sgD x)]) ([ppB s]) (.tup []) ([ppB s']) := by
  refine fnOK_wp (p := (FnOK Tryz.prog 63 [vW s.sh.m, vI s.sq.b, vW x.a] [] (vI cum) []) ∧ (D.bool (decide (s.sq.b ≤ cum)) = D.bool true) ∧ (D.bool (decide (cum ≤ s.sq.n)) = D.bool false) ∧ (FnOK Tryz.prog 89 [AV.ptr 0 0, vL x.k, vI cum] [ppB s] (vL (List.map C06.ivD bl)) [ppB s]) ∧ (FnOK Tryz.prog 88 [AV.d (C11.sqD s.sq), vI cum, vL (List.map C06.ivD bl), vI s.no] [] (AV.tup [AV.d (C11.sqD q), AV.d (.agg [D.int .i64 r.a, D.int .i64 r.s, D.bool r.l])]) []) ∧ (condP (decide (r.s ≥ (0 : Int))) ((FnOK Tryz.prog 90 [AV.d (C08.rD s.rt), vI r.s] [] (AV.d (C08.rD rt1)) []) ∧ (condP (decide (r.a > (0 : Int))) ((FnOK Tryz.prog 91 [AV.d (C10.aD s.wn), vI r.a] [] (AV.d (C10.aD wa)) []) ∧ (condP (r.l) ((FnOK Tryz.prog 72 [AV.d (C10.aD wa)] [] (AV.d (C10.aD wl)) []) ∧ (rf (AV.tup [])) ∧ (pxB s.sh.g s.sh.p s.sh.e s.sh.m s.sh.h q.b q.d q.n q.fl q.cm s.rq.b s.rq.r s.rq.p rt1.s rt1.v rt1.k rt1.h wl.w wl.t wl.p s.li s.no s.he s.nx s.pr s.du = ppB s') ∧ True) ((rf (AV.tup [])) ∧ (pxB s.sh.g s.sh.p s.sh.e s.sh.m s.sh.h q.b q.d q.n q.fl q.cm s.rq.b s.rq.r s.rq.p rt1.s rt1.v rt1.k rt1.h wa.w wa.t wa.p s.li s.no s.he s.nx s.pr s.du = ppB s') ∧ True))) (condP (r.l) ((FnOK Tryz.prog 72 [AV.d (C10.aD s.wn)] [] (AV.d (C10.aD wl)) []) ∧ (rf (AV.tup [])) ∧ (pxB s.sh.g s.sh.p s.sh.e s.sh.m s.sh.h q.b q.d q.n q.fl q.cm s.rq.b s.rq.r s.rq.p rt1.s rt1.v rt1.k rt1.h wl.w wl.t wl.p s.li s.no s.he s.nx s.pr s.du = ppB s') ∧ True) ((rf (AV.tup [])) ∧ (pxB s.sh.g s.sh.p s.sh.e s.sh.m s.sh.h q.b q.d q.n q.fl q.cm s.rq.b s.rq.r s.rq.p rt1.s rt1.v rt1.k rt1.h s.wn.w s.wn.t s.wn.p s.li s.no s.he s.nx s.pr s.du = ppB s') ∧ True)))) (condP (decide (r.a > (0 : Int))) ((FnOK Tryz.prog 91 [AV.d (C10.aD s.wn), vI r.a] [] (AV.d (C10.aD wa)) []) ∧ (condP (r.l) ((FnOK Tryz.prog 72 [AV.d (C10.aD wa)] [] (AV.d (C10.aD wl)) []) ∧ (rf (AV.tup [])) ∧ (ppB { s with sq := q, wn := wl } = ppB s') ∧ True) ((rf (AV.tup [])) ∧ (ppB { s with sq := q, wn := wa } = ppB s') ∧ True))) (condP (r.l) ((FnOK Tryz.prog 72 [AV.d (C10.aD s.wn)] [] (AV.d (C10.aD wl)) []) ∧ (rf (AV.tup [])) ∧ (ppB { s with sq := q, wn := wl } = ppB s') ∧ True) ((rf (AV.tup [])) ∧ (ppB { s with sq := q } = ppB s') ∧ True))))) (h := {H := [(2, [(8, .val (.bool true)), (17, .val (.bool false))]), (4, [(10, .look [0] (.d (.sl (bl.map C06.ivD))))])], G := [(63, gA (.d (.int .i64 cum))), (88, gA (.tup [.d (C11.sqD q), .d (C11.rpD r)])), (90, gA (.d (C08.rD rt1))), (91, gA (.d (C10.aD wa))), (72, gA (.d (C10.aD wl)))]}) (subs := []) (ws := []) (ρ := []) (by kernel_rfl) ?_
  have k0 := place63 s.sh.m s.sq.b x.a
  rw [show pPlc s.sh.m s.sq.b x.a = cum from hcum.symm] at k0
  repeat' (with_reducible first | exact True.intro | apply And.intro | (first | apply zA | apply zB | apply zC | apply zD | apply zE | apply zF | apply zG) <;> intro)
  all_goals first | exact k0 | exact k1 | exact k2 | exact k3 | exact k4 | with_reducible rfl | (rename_i ha _; rw [if_pos ha] at k5; exact k5) | (rename_i ha _; rw [if_neg ha] at k5; exact k5) | exact hk | exact congrArg D.sl hk | exact congrArg (D.int .i64) hl.symm | exact dyes (by omega) | exact dno (by omega) | (refine congrArg D.bool ?_; rw [decide_eq_false_iff_not]; omega) | (exfalso; omega) | (rw [← hk] at k1; subst hl; exact k1) | skip
  all_goals (subst hz; first | rw [pRt_y (by assumption)] | rw [pRt_n (by assumption)])
  all_goals first | rw [pWn_l (by assumption)] | rw [pWn_a (by assumption) (by assumption)] | rw [pWn_n (by assumption) (by assumption)]
  all_goals (subst hl; rfl)
set_option maxRecDepth 100000 in
set_option maxHeartbeats 1000000 in
theorem tookA1 (s s1 : Pp) (x : C13.Sg) (b2 b16 : Bool) (q : C12.Rq) (n : Int) (h1 : C13.hasB x.f 1 = false) (h2 : C13.hasB x.f 2 = true) (h16 : C13.hasB x.f 16 = b16) (k1 : FnOK Tryz.prog 61 [.ptr 0 0, .d (C13.sgD x)] [ppB s] (.tup []) [ppB s1]) (ht : x.t ≠ []) (k6 : FnOK Tryz.prog 62 [.d (C12.rqD s1.rq), .d (.int .i64 (pPlc s1.sh.h s1.rq.b x.q)), .d (.str x.t)] [] (.tup [.d (C12.rqD q), .d (.int .i64 n)]) []) : FnOK Tryz.prog 32 ([.ptr 0 0, .d (C13.sgD x)]) ([ppB s]) (.tup []) ([ppB (TK s1 q true)]) := by
  refine fnOK_wp (p := (FnOK Tryz.prog 57 [AV.d (C13.sgD x), vU 1] [] (vB false) []) ∧ (FnOK Tryz.prog 57 [AV.d (C13.sgD x), vU 2] [] (vB true) []) ∧ (rf (D.bool true)) ∧ (FnOK Tryz.prog 61 [AV.ptr 0 0, AV.d (C13.sgD x)] [ppB s] (AV.tup []) [ppB s1]) ∧ ((D.bool !x.t == []) = D.bool true) ∧ (FnOK Tryz.prog 63 [vW s1.sh.h, vI s1.rq.b, vW x.q] [] (vI (pPlc s1.sh.h s1.rq.b x.q)) []) ∧ (FnOK Tryz.prog 62 [AV.d (C12.rqD s1.rq), vI (pPlc s1.sh.h s1.rq.b x.q), vS x.t] [] (AV.tup [AV.d (C12.rqD q), vI n]) []) ∧ (rf (D.bool false)) ∧ ((D.bool !x.t == []) = D.bool true) ∧ (rf (D.bool true)) ∧ (rf (AV.tup [])) ∧ (ppB { s1 with rq := q, du := true } = Ob.box [vU (TK s1 q true).sh.g, vI (TK s1 q true).sh.p, vI (TK s1 q true).sh.e, vW (TK s1 q true).sh.m, vW (TK s1 q true).sh.h, vI (TK s1 q true).sq.b, vS (TK s1 q true).sq.d, vI (TK s1 q true).sq.n, vL (List.map C11.ckD (TK s1 q true).sq.fl), vL (List.map C06.ivD (TK s1 q true).sq.cm), vI (TK s1 q true).rq.b, vS (TK s1 q true).rq.r, vL (List.map C12.ptD (TK s1 q true).rq.p), vI (TK s1 q true).rt.s, vI (TK s1 q true).rt.v, vB (TK s1 q true).rt.k, vI (TK s1 q true).rt.h, vI (TK s1 q true).wn.w, vI (TK s1 q true).wn.t, vI (TK s1 q true).wn.p, vI (TK s1 q true).li, vI (TK s1 q true).no, vI (TK s1 q true).he, vI (TK s1 q true).nx, vI (TK s1 q true).pr, vB true]) ∧ True) (h := {H := [(1, [(1, .call [] (.d (.bool false)) [])]), (2, [(1, .call [] (.d (.bool true)) [])]), (3, [(2, .call [0] (.tup []) [ppB s1])]), (4, [(2, .val (.bool true))]), (6, [(4, .val (.bool true)), (8, .call [] (.d (.bool b16)) [])])], G := [(63, gPlc), (62, gA (.tup [.d (C12.rqD q), .d (.int .i64 n)]))]}) (subs := []) (ws := []) (ρ := []) (by kernel_rfl) ?_
  have a1 := C13.has28 x 1
  have a2 := C13.has28 x 2
  have a16 := C13.has28 x 16
  rw [h1] at a1
  rw [h2] at a2
  rw [h16] at a16
  repeat' (with_reducible first | exact True.intro | apply And.intro | (first | apply zA | apply zB | apply zC | apply zD | apply zE | apply zF | apply zG) <;> intro)
  all_goals first | exact a1 | exact a2 | exact a16 | exact k1 | exact k6 | exact place63 _ _ _ | rfl | exact dyes ht | exact dno (by simp [ht]) | (refine congrArg D.bool ?_; simp [*]; done) | (cases b16 <;> first | rfl | contradiction) | (exfalso; simp_all; done) | skip
set_option maxRecDepth 100000 in
set_option maxHeartbeats 1000000 in
theorem tookA0 (s s1 : Pp) (x : C13.Sg) (b2 b16 : Bool) (q : C12.Rq) (n : Int) (h1 : C13.hasB x.f 1 = false) (h2 : C13.hasB x.f 2 = true) (h16 : C13.hasB x.f 16 = b16) (k1 : FnOK Tryz.prog 61 [.ptr 0 0, .d (C13.sgD x)] [ppB s] (.tup []) [ppB s1]) (ht : x.t = []) (k6 : True) : FnOK Tryz.prog 32 ([.ptr 0 0, .d (C13.sgD x)]) ([ppB s]) (.tup []) ([ppB (TK s1 s1.rq (b16 || s1.du))]) := by
  refine fnOK_wp (p := (FnOK Tryz.prog 57 [AV.d (C13.sgD x), vU 1] [] (vB false) []) ∧ (FnOK Tryz.prog 57 [AV.d (C13.sgD x), vU 2] [] (vB true) []) ∧ (rf (D.bool true)) ∧ (FnOK Tryz.prog 61 [AV.ptr 0 0, AV.d (C13.sgD x)] [ppB s] (AV.tup []) [ppB s1]) ∧ ((D.bool !x.t == []) = D.bool false) ∧ (rf (D.bool false)) ∧ ((D.bool !x.t == []) = D.bool false) ∧ (rf (D.bool false)) ∧ (FnOK Tryz.prog 57 [AV.d (C13.sgD x), vU 16] [] (vB b16) []) ∧ (condP (b16) ((rf (AV.tup [])) ∧ (ppB { s1 with du := true } = Ob.box [vU (TK s1 s1.rq (b16 || s1.du)).sh.g, vI (TK s1 s1.rq (b16 || s1.du)).sh.p, vI (TK s1 s1.rq (b16 || s1.du)).sh.e, vW (TK s1 s1.rq (b16 || s1.du)).sh.m, vW (TK s1 s1.rq (b16 || s1.du)).sh.h, vI (TK s1 s1.rq (b16 || s1.du)).sq.b, vS (TK s1 s1.rq (b16 || s1.du)).sq.d, vI (TK s1 s1.rq (b16 || s1.du)).sq.n, vL (List.map C11.ckD (TK s1 s1.rq (b16 || s1.du)).sq.fl), vL (List.map C06.ivD (TK s1 s1.rq (b16 || s1.du)).sq.cm), vI (TK s1 s1.rq (b16 || s1.du)).rq.b, vS (TK s1 s1.rq (b16 || s1.du)).rq.r, vL (List.map C12.ptD (TK s1 s1.rq (b16 || s1.du)).rq.p), vI (TK s1 s1.rq (b16 || s1.du)).rt.s, vI (TK s1 s1.rq (b16 || s1.du)).rt.v, vB (TK s1 s1.rq (b16 || s1.du)).rt.k, vI (TK s1 s1.rq (b16 || s1.du)).rt.h, vI (TK s1 s1.rq (b16 || s1.du)).wn.w, vI (TK s1 s1.rq (b16 || s1.du)).wn.t, vI (TK s1 s1.rq (b16 || s1.du)).wn.p, vI (TK s1 s1.rq (b16 || s1.du)).li, vI (TK s1 s1.rq (b16 || s1.du)).no, vI (TK s1 s1.rq (b16 || s1.du)).he, vI (TK s1 s1.rq (b16 || s1.du)).nx, vI (TK s1 s1.rq (b16 || s1.du)).pr, vB (TK s1 s1.rq (b16 || s1.du)).du]) ∧ True) ((rf (AV.tup [])) ∧ (ppB s1 = Ob.box [vU (TK s1 s1.rq (b16 || s1.du)).sh.g, vI (TK s1 s1.rq (b16 || s1.du)).sh.p, vI (TK s1 s1.rq (b16 || s1.du)).sh.e, vW (TK s1 s1.rq (b16 || s1.du)).sh.m, vW (TK s1 s1.rq (b16 || s1.du)).sh.h, vI (TK s1 s1.rq (b16 || s1.du)).sq.b, vS (TK s1 s1.rq (b16 || s1.du)).sq.d, vI (TK s1 s1.rq (b16 || s1.du)).sq.n, vL (List.map C11.ckD (TK s1 s1.rq (b16 || s1.du)).sq.fl), vL (List.map C06.ivD (TK s1 s1.rq (b16 || s1.du)).sq.cm), vI (TK s1 s1.rq (b16 || s1.du)).rq.b, vS (TK s1 s1.rq (b16 || s1.du)).rq.r, vL (List.map C12.ptD (TK s1 s1.rq (b16 || s1.du)).rq.p), vI (TK s1 s1.rq (b16 || s1.du)).rt.s, vI (TK s1 s1.rq (b16 || s1.du)).rt.v, vB (TK s1 s1.rq (b16 || s1.du)).rt.k, vI (TK s1 s1.rq (b16 || s1.du)).rt.h, vI (TK s1 s1.rq (b16 || s1.du)).wn.w, vI (TK s1 s1.rq (b16 || s1.du)).wn.t, vI (TK s1 s1.rq (b16 || s1.du)).wn.p, vI (TK s1 s1.rq (b16 || s1.du)).li, vI (TK s1 s1.rq (b16 || s1.du)).no, vI (TK s1 s1.rq (b16 || s1.du)).he, vI (TK s1 s1.rq (b16 || s1.du)).nx, vI (TK s1 s1.rq (b16 || s1.du)).pr, vB (TK s1 s1.rq (b16 || s1.du)).du]) ∧ True))) (h := {H := [(1, [(1, .call [] (.d (.bool false)) [])]), (2, [(1, .call [] (.d (.bool true)) [])]), (3, [(2, .call [0] (.tup []) [ppB s1])]), (4, [(2, .val (.bool false))]), (6, [(4, .val (.bool false)), (8, .call [] (.d (.bool b16)) [])])], G := [(63, gPlc), (62, gA (.tup [.d (C12.rqD q), .d (.int .i64 n)]))]}) (subs := []) (ws := []) (ρ := []) (by kernel_rfl) ?_
  have a1 := C13.has28 x 1
  have a2 := C13.has28 x 2
  have a16 := C13.has28 x 16
  rw [h1] at a1
  rw [h2] at a2
  rw [h16] at a16
  repeat' (with_reducible first | exact True.intro | apply And.intro | (first | apply zA | apply zB | apply zC | apply zD | apply zE | apply zF | apply zG) <;> intro)
  all_goals first | exact a1 | exact a2 | exact a16 | exact k1 | exact k6 | exact place63 _ _ _ | rfl | exact dyes ht | exact dno (by simp [ht]) | (refine congrArg D.bool ?_; simp [*]; done) | (cases b16 <;> first | rfl | contradiction) | (exfalso; simp_all; done) | skip
set_option maxRecDepth 100000 in
set_option maxHeartbeats 1000000 in
theorem tookB1 (s s1 : Pp) (x : C13.Sg) (b2 b16 : Bool) (q : C12.Rq) (n : Int) (h1 : C13.hasB x.f 1 = true) (h2 : C13.hasB x.f 2 = b2) (h16 : C13.hasB x.f 16 = b16) (k1 : s1 = s) (ht : x.t ≠ []) (k6 : FnOK Tryz.prog 62 [.d (C12.rqD s1.rq), .d (.int .i64 (pPlc s1.sh.h s1.rq.b x.q)), .d (.str x.t)] [] (.tup [.d (C12.rqD q), .d (.int .i64 n)]) []) : FnOK Tryz.prog 32 ([.ptr 0 0, .d (C13.sgD x)]) ([ppB s]) (.tup []) ([ppB (TK s1 q true)]) := by
  refine fnOK_wp (p := (FnOK Tryz.prog 57 [AV.d (C13.sgD x), vU 1] [] (vB true) []) ∧ (condP (b2) ((FnOK Tryz.prog 57 [AV.d (C13.sgD x), vU 2] [] (vB b2) []) ∧ (D.bool b2 = D.bool true) ∧ (rf (D.bool false)) ∧ ((D.bool !x.t == []) = D.bool true) ∧ (FnOK Tryz.prog 63 [vW s.sh.h, vI s.rq.b, vW x.q] [] (vI (pPlc s.sh.h s.rq.b x.q)) []) ∧ (FnOK Tryz.prog 62 [AV.d (C12.rqD s.rq), vI (pPlc s.sh.h s.rq.b x.q), vS x.t] [] (AV.tup [AV.d (C12.rqD q), vI n]) []) ∧ (rf (D.bool true)) ∧ (rf (D.bool true)) ∧ (rf (AV.tup [])) ∧ (ppB { s with rq := q, du := true } = Ob.box [vU (TK s1 q true).sh.g, vI (TK s1 q true).sh.p, vI (TK s1 q true).sh.e, vW (TK s1 q true).sh.m, vW (TK s1 q true).sh.h, vI (TK s1 q true).sq.b, vS (TK s1 q true).sq.d, vI (TK s1 q true).sq.n, vL (List.map C11.ckD (TK s1 q true).sq.fl), vL (List.map C06.ivD (TK s1 q true).sq.cm), vI (TK s1 q true).rq.b, vS (TK s1 q true).rq.r, vL (List.map C12.ptD (TK s1 q true).rq.p), vI (TK s1 q true).rt.s, vI (TK s1 q true).rt.v, vB (TK s1 q true).rt.k, vI (TK s1 q true).rt.h, vI (TK s1 q true).wn.w, vI (TK s1 q true).wn.t, vI (TK s1 q true).wn.p, vI (TK s1 q true).li, vI (TK s1 q true).no, vI (TK s1 q true).he, vI (TK s1 q true).nx, vI (TK s1 q true).pr, vB true]) ∧ True) ((FnOK Tryz.prog 57 [AV.d (C13.sgD x), vU 2] [] (vB b2) []) ∧ (D.bool b2 = D.bool false) ∧ (rf (D.bool false)) ∧ ((D.bool !x.t == []) = D.bool true) ∧ (FnOK Tryz.prog 63 [vW s.sh.h, vI s.rq.b, vW x.q] [] (vI (pPlc s.sh.h s.rq.b x.q)) []) ∧ (FnOK Tryz.prog 62 [AV.d (C12.rqD s.rq), vI (pPlc s.sh.h s.rq.b x.q), vS x.t] [] (AV.tup [AV.d (C12.rqD q), vI n]) []) ∧ (rf (D.bool true)) ∧ (rf (D.bool true)) ∧ (rf (AV.tup [])) ∧ (ppB { s with rq := q, du := true } = Ob.box [vU (TK s1 q true).sh.g, vI (TK s1 q true).sh.p, vI (TK s1 q true).sh.e, vW (TK s1 q true).sh.m, vW (TK s1 q true).sh.h, vI (TK s1 q true).sq.b, vS (TK s1 q true).sq.d, vI (TK s1 q true).sq.n, vL (List.map C11.ckD (TK s1 q true).sq.fl), vL (List.map C06.ivD (TK s1 q true).sq.cm), vI (TK s1 q true).rq.b, vS (TK s1 q true).rq.r, vL (List.map C12.ptD (TK s1 q true).rq.p), vI (TK s1 q true).rt.s, vI (TK s1 q true).rt.v, vB (TK s1 q true).rt.k, vI (TK s1 q true).rt.h, vI (TK s1 q true).wn.w, vI (TK s1 q true).wn.t, vI (TK s1 q true).wn.p, vI (TK s1 q true).li, vI (TK s1 q true).no, vI (TK s1 q true).he, vI (TK s1 q true).nx, vI (TK s1 q true).pr, vB true]) ∧ True))) (h := {H := [(1, [(1, .call [] (.d (.bool true)) [])]), (2, [(1, .call [] (.d (.bool b2)) []), (5, .val (.bool false))]), (4, [(2, .val (.bool true))]), (6, [(8, .call [] (.d (.bool b16)) [])])], G := [(63, gPlc), (62, gA (.tup [.d (C12.rqD q), .d (.int .i64 n)]))]}) (subs := []) (ws := []) (ρ := []) (by kernel_rfl) ?_
  subst k1
  have a1 := C13.has28 x 1
  have a2 := C13.has28 x 2
  have a16 := C13.has28 x 16
  rw [h1] at a1
  rw [h2] at a2
  rw [h16] at a16
  repeat' (with_reducible first | exact True.intro | apply And.intro | (first | apply zA | apply zB | apply zC | apply zD | apply zE | apply zF | apply zG) <;> intro)
  all_goals first | exact a1 | exact a2 | exact a16 | exact k1 | exact k6 | exact place63 _ _ _ | rfl | exact dyes ht | exact dno (by simp [ht]) | (refine congrArg D.bool ?_; simp [*]; done) | (cases b16 <;> first | rfl | contradiction) | (exfalso; simp_all; done) | skip
set_option maxRecDepth 100000 in
set_option maxHeartbeats 1000000 in
theorem tookB0 (s s1 : Pp) (x : C13.Sg) (b2 b16 : Bool) (q : C12.Rq) (n : Int) (h1 : C13.hasB x.f 1 = true) (h2 : C13.hasB x.f 2 = b2) (h16 : C13.hasB x.f 16 = b16) (k1 : s1 = s) (ht : x.t = []) (k6 : True) : FnOK Tryz.prog 32 ([.ptr 0 0, .d (C13.sgD x)]) ([ppB s]) (.tup []) ([ppB (TK s1 s1.rq true)]) := by
  refine fnOK_wp (p := (FnOK Tryz.prog 57 [AV.d (C13.sgD x), vU 1] [] (vB true) []) ∧ (condP (b2) ((FnOK Tryz.prog 57 [AV.d (C13.sgD x), vU 2] [] (vB b2) []) ∧ (D.bool b2 = D.bool true) ∧ (rf (D.bool false)) ∧ ((D.bool !x.t == []) = D.bool false) ∧ (rf (D.bool true)) ∧ (rf (D.bool true)) ∧ (rf (AV.tup [])) ∧ (ppB { s with du := true } = Ob.box [vU (TK s1 s1.rq true).sh.g, vI (TK s1 s1.rq true).sh.p, vI (TK s1 s1.rq true).sh.e, vW (TK s1 s1.rq true).sh.m, vW (TK s1 s1.rq true).sh.h, vI (TK s1 s1.rq true).sq.b, vS (TK s1 s1.rq true).sq.d, vI (TK s1 s1.rq true).sq.n, vL (List.map C11.ckD (TK s1 s1.rq true).sq.fl), vL (List.map C06.ivD (TK s1 s1.rq true).sq.cm), vI (TK s1 s1.rq true).rq.b, vS (TK s1 s1.rq true).rq.r, vL (List.map C12.ptD (TK s1 s1.rq true).rq.p), vI (TK s1 s1.rq true).rt.s, vI (TK s1 s1.rq true).rt.v, vB (TK s1 s1.rq true).rt.k, vI (TK s1 s1.rq true).rt.h, vI (TK s1 s1.rq true).wn.w, vI (TK s1 s1.rq true).wn.t, vI (TK s1 s1.rq true).wn.p, vI (TK s1 s1.rq true).li, vI (TK s1 s1.rq true).no, vI (TK s1 s1.rq true).he, vI (TK s1 s1.rq true).nx, vI (TK s1 s1.rq true).pr, vB true]) ∧ True) ((FnOK Tryz.prog 57 [AV.d (C13.sgD x), vU 2] [] (vB b2) []) ∧ (D.bool b2 = D.bool false) ∧ (rf (D.bool false)) ∧ ((D.bool !x.t == []) = D.bool false) ∧ (rf (D.bool true)) ∧ (rf (D.bool true)) ∧ (rf (AV.tup [])) ∧ (ppB { s with du := true } = Ob.box [vU (TK s1 s1.rq true).sh.g, vI (TK s1 s1.rq true).sh.p, vI (TK s1 s1.rq true).sh.e, vW (TK s1 s1.rq true).sh.m, vW (TK s1 s1.rq true).sh.h, vI (TK s1 s1.rq true).sq.b, vS (TK s1 s1.rq true).sq.d, vI (TK s1 s1.rq true).sq.n, vL (List.map C11.ckD (TK s1 s1.rq true).sq.fl), vL (List.map C06.ivD (TK s1 s1.rq true).sq.cm), vI (TK s1 s1.rq true).rq.b, vS (TK s1 s1.rq true).rq.r, vL (List.map C12.ptD (TK s1 s1.rq true).rq.p), vI (TK s1 s1.rq true).rt.s, vI (TK s1 s1.rq true).rt.v, vB (TK s1 s1.rq true).rt.k, vI (TK s1 s1.rq true).rt.h, vI (TK s1 s1.rq true).wn.w, vI (TK s1 s1.rq true).wn.t, vI (TK s1 s1.rq true).wn.p, vI (TK s1 s1.rq true).li, vI (TK s1 s1.rq true).no, vI (TK s1 s1.rq true).he, vI (TK s1 s1.rq true).nx, vI (TK s1 s1.rq true).pr, vB true]) ∧ True))) (h := {H := [(1, [(1, .call [] (.d (.bool true)) [])]), (2, [(1, .call [] (.d (.bool b2)) []), (5, .val (.bool false))]), (4, [(2, .val (.bool false))]), (6, [(8, .call [] (.d (.bool b16)) [])])], G := [(63, gPlc), (62, gA (.tup [.d (C12.rqD q), .d (.int .i64 n)]))]}) (subs := []) (ws := []) (ρ := []) (by kernel_rfl) ?_
  subst k1
  have a1 := C13.has28 x 1
  have a2 := C13.has28 x 2
  have a16 := C13.has28 x 16
  rw [h1] at a1
  rw [h2] at a2
  rw [h16] at a16
  repeat' (with_reducible first | exact True.intro | apply And.intro | (first | apply zA | apply zB | apply zC | apply zD | apply zE | apply zF | apply zG) <;> intro)
  all_goals first | exact a1 | exact a2 | exact a16 | exact k1 | exact k6 | exact place63 _ _ _ | rfl | exact dyes ht | exact dno (by simp [ht]) | (refine congrArg D.bool ?_; simp [*]; done) | (cases b16 <;> first | rfl | contradiction) | (exfalso; simp_all; done) | skip
set_option maxRecDepth 100000 in
set_option maxHeartbeats 1000000 in
theorem tookC1 (s s1 : Pp) (x : C13.Sg) (b2 b16 : Bool) (q : C12.Rq) (n : Int) (h1 : C13.hasB x.f 1 = false) (h2 : C13.hasB x.f 2 = false) (h16 : C13.hasB x.f 16 = b16) (k1 : s1 = s) (ht : x.t ≠ []) (k6 : FnOK Tryz.prog 62 [.d (C12.rqD s1.rq), .d (.int .i64 (pPlc s1.sh.h s1.rq.b x.q)), .d (.str x.t)] [] (.tup [.d (C12.rqD q), .d (.int .i64 n)]) []) : FnOK Tryz.prog 32 ([.ptr 0 0, .d (C13.sgD x)]) ([ppB s]) (.tup []) ([ppB (TK s1 q true)]) := by
  refine fnOK_wp (p := (FnOK Tryz.prog 57 [AV.d (C13.sgD x), vU 1] [] (vB false) []) ∧ (FnOK Tryz.prog 57 [AV.d (C13.sgD x), vU 2] [] (vB false) []) ∧ (rf (D.bool false)) ∧ ((D.bool !x.t == []) = D.bool true) ∧ (FnOK Tryz.prog 63 [vW s.sh.h, vI s.rq.b, vW x.q] [] (vI (pPlc s.sh.h s.rq.b x.q)) []) ∧ (FnOK Tryz.prog 62 [AV.d (C12.rqD s.rq), vI (pPlc s.sh.h s.rq.b x.q), vS x.t] [] (AV.tup [AV.d (C12.rqD q), vI n]) []) ∧ (rf (D.bool false)) ∧ ((D.bool !x.t == []) = D.bool true) ∧ (rf (D.bool true)) ∧ (rf (AV.tup [])) ∧ (ppB { s with rq := q, du := true } = Ob.box [vU (TK s1 q true).sh.g, vI (TK s1 q true).sh.p, vI (TK s1 q true).sh.e, vW (TK s1 q true).sh.m, vW (TK s1 q true).sh.h, vI (TK s1 q true).sq.b, vS (TK s1 q true).sq.d, vI (TK s1 q true).sq.n, vL (List.map C11.ckD (TK s1 q true).sq.fl), vL (List.map C06.ivD (TK s1 q true).sq.cm), vI (TK s1 q true).rq.b, vS (TK s1 q true).rq.r, vL (List.map C12.ptD (TK s1 q true).rq.p), vI (TK s1 q true).rt.s, vI (TK s1 q true).rt.v, vB (TK s1 q true).rt.k, vI (TK s1 q true).rt.h, vI (TK s1 q true).wn.w, vI (TK s1 q true).wn.t, vI (TK s1 q true).wn.p, vI (TK s1 q true).li, vI (TK s1 q true).no, vI (TK s1 q true).he, vI (TK s1 q true).nx, vI (TK s1 q true).pr, vB true]) ∧ True) (h := {H := [(1, [(1, .call [] (.d (.bool false)) [])]), (2, [(1, .call [] (.d (.bool false)) [])]), (4, [(2, .val (.bool true))]), (6, [(4, .val (.bool true)), (8, .call [] (.d (.bool b16)) [])])], G := [(63, gPlc), (62, gA (.tup [.d (C12.rqD q), .d (.int .i64 n)]))]}) (subs := []) (ws := []) (ρ := []) (by kernel_rfl) ?_
  subst k1
  have a1 := C13.has28 x 1
  have a2 := C13.has28 x 2
  have a16 := C13.has28 x 16
  rw [h1] at a1
  rw [h2] at a2
  rw [h16] at a16
  repeat' (with_reducible first | exact True.intro | apply And.intro | (first | apply zA | apply zB | apply zC | apply zD | apply zE | apply zF | apply zG) <;> intro)
  all_goals first | exact a1 | exact a2 | exact a16 | exact k1 | exact k6 | exact place63 _ _ _ | rfl | exact dyes ht | exact dno (by simp [ht]) | (refine congrArg D.bool ?_; simp [*]; done) | (cases b16 <;> first | rfl | contradiction) | (exfalso; simp_all; done) | skip
set_option maxRecDepth 100000 in
set_option maxHeartbeats 1000000 in
theorem tookC0 (s s1 : Pp) (x : C13.Sg) (b2 b16 : Bool) (q : C12.Rq) (n : Int) (h1 : C13.hasB x.f 1 = false) (h2 : C13.hasB x.f 2 = false) (h16 : C13.hasB x.f 16 = b16) (k1 : s1 = s) (ht : x.t = []) (k6 : True) : FnOK Tryz.prog 32 ([.ptr 0 0, .d (C13.sgD x)]) ([ppB s]) (.tup []) ([ppB (TK s1 s1.rq (b16 || s1.du))]) := by
  refine fnOK_wp (p := (FnOK Tryz.prog 57 [AV.d (C13.sgD x), vU 1] [] (vB false) []) ∧ (FnOK Tryz.prog 57 [AV.d (C13.sgD x), vU 2] [] (vB false) []) ∧ (rf (D.bool false)) ∧ ((D.bool !x.t == []) = D.bool false) ∧ (rf (D.bool false)) ∧ ((D.bool !x.t == []) = D.bool false) ∧ (rf (D.bool false)) ∧ (FnOK Tryz.prog 57 [AV.d (C13.sgD x), vU 16] [] (vB b16) []) ∧ (condP (b16) ((rf (AV.tup [])) ∧ (ppB { s with du := true } = Ob.box [vU (TK s1 s1.rq (b16 || s1.du)).sh.g, vI (TK s1 s1.rq (b16 || s1.du)).sh.p, vI (TK s1 s1.rq (b16 || s1.du)).sh.e, vW (TK s1 s1.rq (b16 || s1.du)).sh.m, vW (TK s1 s1.rq (b16 || s1.du)).sh.h, vI (TK s1 s1.rq (b16 || s1.du)).sq.b, vS (TK s1 s1.rq (b16 || s1.du)).sq.d, vI (TK s1 s1.rq (b16 || s1.du)).sq.n, vL (List.map C11.ckD (TK s1 s1.rq (b16 || s1.du)).sq.fl), vL (List.map C06.ivD (TK s1 s1.rq (b16 || s1.du)).sq.cm), vI (TK s1 s1.rq (b16 || s1.du)).rq.b, vS (TK s1 s1.rq (b16 || s1.du)).rq.r, vL (List.map C12.ptD (TK s1 s1.rq (b16 || s1.du)).rq.p), vI (TK s1 s1.rq (b16 || s1.du)).rt.s, vI (TK s1 s1.rq (b16 || s1.du)).rt.v, vB (TK s1 s1.rq (b16 || s1.du)).rt.k, vI (TK s1 s1.rq (b16 || s1.du)).rt.h, vI (TK s1 s1.rq (b16 || s1.du)).wn.w, vI (TK s1 s1.rq (b16 || s1.du)).wn.t, vI (TK s1 s1.rq (b16 || s1.du)).wn.p, vI (TK s1 s1.rq (b16 || s1.du)).li, vI (TK s1 s1.rq (b16 || s1.du)).no, vI (TK s1 s1.rq (b16 || s1.du)).he, vI (TK s1 s1.rq (b16 || s1.du)).nx, vI (TK s1 s1.rq (b16 || s1.du)).pr, vB (TK s1 s1.rq (b16 || s1.du)).du]) ∧ True) ((rf (AV.tup [])) ∧ (ppB s = Ob.box [vU (TK s1 s1.rq (b16 || s1.du)).sh.g, vI (TK s1 s1.rq (b16 || s1.du)).sh.p, vI (TK s1 s1.rq (b16 || s1.du)).sh.e, vW (TK s1 s1.rq (b16 || s1.du)).sh.m, vW (TK s1 s1.rq (b16 || s1.du)).sh.h, vI (TK s1 s1.rq (b16 || s1.du)).sq.b, vS (TK s1 s1.rq (b16 || s1.du)).sq.d, vI (TK s1 s1.rq (b16 || s1.du)).sq.n, vL (List.map C11.ckD (TK s1 s1.rq (b16 || s1.du)).sq.fl), vL (List.map C06.ivD (TK s1 s1.rq (b16 || s1.du)).sq.cm), vI (TK s1 s1.rq (b16 || s1.du)).rq.b, vS (TK s1 s1.rq (b16 || s1.du)).rq.r, vL (List.map C12.ptD (TK s1 s1.rq (b16 || s1.du)).rq.p), vI (TK s1 s1.rq (b16 || s1.du)).rt.s, vI (TK s1 s1.rq (b16 || s1.du)).rt.v, vB (TK s1 s1.rq (b16 || s1.du)).rt.k, vI (TK s1 s1.rq (b16 || s1.du)).rt.h, vI (TK s1 s1.rq (b16 || s1.du)).wn.w, vI (TK s1 s1.rq (b16 || s1.du)).wn.t, vI (TK s1 s1.rq (b16 || s1.du)).wn.p, vI (TK s1 s1.rq (b16 || s1.du)).li, vI (TK s1 s1.rq (b16 || s1.du)).no, vI (TK s1 s1.rq (b16 || s1.du)).he, vI (TK s1 s1.rq (b16 || s1.du)).nx, vI (TK s1 s1.rq (b16 || s1.du)).pr, vB (TK s1 s1.rq (b16 || s1.du)).du]) ∧ True))) (h := {H := [(1, [(1, .call [] (.d (.bool false)) [])]), (2, [(1, .call [] (.d (.bool false)) [])]), (4, [(2, .val (.bool false))]), (6, [(4, .val (.bool false)), (8, .call [] (.d (.bool b16)) [])])], G := [(63, gPlc), (62, gA (.tup [.d (C12.rqD q), .d (.int .i64 n)]))]}) (subs := []) (ws := []) (ρ := []) (by kernel_rfl) ?_
  subst k1
  have a1 := C13.has28 x 1
  have a2 := C13.has28 x 2
  have a16 := C13.has28 x 16
  rw [h1] at a1
  rw [h2] at a2
  rw [h16] at a16
  repeat' (with_reducible first | exact True.intro | apply And.intro | (first | apply zA | apply zB | apply zC | apply zD | apply zE | apply zF | apply zG) <;> intro)
  all_goals first | exact a1 | exact a2 | exact a16 | exact k1 | exact k6 | exact place63 _ _ _ | rfl | exact dyes ht | exact dno (by simp [ht]) | (refine congrArg D.bool ?_; simp [*]; done) | (cases b16 <;> first | rfl | contradiction) | (exfalso; simp_all; done) | skip
end Go.Proofs.YtalpfhpeaaocmaaGreat
end
section
set_option linter.unusedSimpArgs false
set_option linter.unusedVariables false
namespace Go.Proofs.YtalpfhpeaaocmaaGreat
open Sx Go.RowKit
theorem pAcked_eq (s : Pp) (x : C13.Sg) : pAcked s x = { s with li := if s.sq.b ≤ pCum s x ∧ pCum s x ≤ s.sq.n then max s.li (IntKind.i64.wrap (pCum s x + x.w)) else s.li, sq := (pAck s x).1, rt := pRt s.rt (C08.rSample s.rt (pAck s x).2.s) (pAck s x).2, wn := pWn s.wn (C10.aAcked s.wn (pAck s x).2.a) (C10.aLost (if (pAck s x).2.a > 0 then C10.aAcked s.wn (pAck s x).2.a else s.wn)) (pAck s x).2 } := rfl
theorem bkOf_map (bs : List (Int × Int)) : (bs.map bkD).map bkOf = bs := by
  rw [List.map_map]
  have : bkOf ∘ bkD = id := funext fun x => rfl
  rw [this, List.map_id]
theorem acked61 (s : Pp) (ok : C11.SqOk s.sq) (hf : s.sq.fl.length < 10000) (hc : s.sq.cm.length < 10000) (x : C13.Sg) (bs : List (Int × Int)) (hk : x.k = bs.map bkD) (hl : bs.length < 9000) : FnOK Tryz.prog 61 [.ptr 0 0, .d (C13.sgD x)] [ppB s] (.tup []) [ppB (pAcked s x)] := by
  have hbl : (pBlocks s bs (pCum s x)).length < 10000 := by
    have := pBlocks_len s (pCum s x) bs []
    unfold pBlocks; simp at this; omega
  have k2 := C11.ack20 s.sq ok hf hc (pCum s x) (pBlocks s bs (pCum s x)) hbl s.no
  have e : pAck s x = C11.rAck s.sq (pCum s x) (pBlocks s bs (pCum s x)) s.no := by unfold pAck; rw [hk, bkOf_map]
  rw [← e] at k2
  have k3 := C08.sample16 s.rt (pAck s x).2.s
  have k4 := C10.acked15 s.wn (pAck s x).2.a
  have k5 := C10.lost17 (if (pAck s x).2.a > 0 then C10.aAcked s.wn (pAck s x).2.a else s.wn)
  have k1 := fun li : Int => blocks89 { s with li := li } bs (by omega) (pCum s x)
  rw [pAcked_eq]
  by_cases h : s.sq.b ≤ pCum s x ∧ pCum s x ≤ s.sq.n
  · rw [if_pos h]
    exact acked61y s _ x bs hk _ _ rfl _ _ _ _ _ _ rfl (k1 _) k2 k3 k4 k5 h rfl
  · rw [if_neg h]
    by_cases h1 : s.sq.b ≤ pCum s x
    · exact acked61m s _ x bs hk _ _ rfl _ _ _ _ _ _ rfl (k1 _) k2 k3 k4 k5 ⟨h1, fun g => h ⟨h1, g⟩⟩ rfl
    · exact acked61n s _ x bs hk _ _ rfl _ _ _ _ _ _ rfl (k1 _) k2 k3 k4 k5 h1 rfl
theorem took32 (s : Pp) (ok : C11.SqOk s.sq) (hf : s.sq.fl.length < 10000) (hc : s.sq.cm.length < 10000) (hb : C12.Rb s.rq) (hp : s.rq.p.length < 900000) (x : C13.Sg) (hx : C12.rHeld s.rq + x.t.length < 900000) (bs : List (Int × Int)) (hk : x.k = bs.map bkD) (hl : bs.length < 9000) : FnOK Tryz.prog 32 [.ptr 0 0, .d (C13.sgD x)] [ppB s] (.tup []) [ppB (pTook s x)] := by
  have k1 := acked61 s ok hf hc x bs hk hl
  have k6 := fun s1 : Pp => fun h : s1.rq = s.rq => C12.put11 s1.rq (h ▸ hb) (h ▸ hp) (pPlc s1.sh.h s1.rq.b x.q) x.t (by rw [h]; exact hx)
  rw [pTook_eq]
  cases h1 : C13.hasB x.f 1
  · cases h2 : C13.hasB x.f 2
    · have e : pA s x = s := by unfold pA; rw [h2, h1]; rfl
      rw [e]
      by_cases ht : x.t = []
      · have := tookC0 s s x true _ ⟨0, [], []⟩ 0 h1 h2 rfl rfl ht trivial
        rw [if_neg (by simp [ht]), decide_eq_false (by simp [ht])]
        simpa using this
      · rw [if_pos ht, decide_eq_true ht]
        have := tookC1 s s x true _ _ _ h1 h2 rfl rfl ht (k6 s rfl)
        simpa using this
    · have e : pA s x = pAcked s x := by unfold pA; rw [h2, h1]; rfl
      rw [e]
      by_cases ht : x.t = []
      · have := tookA0 s _ x true _ ⟨0, [], []⟩ 0 h1 h2 rfl k1 ht trivial
        rw [if_neg (by simp [ht]), decide_eq_false (by simp [ht])]
        simpa using this
      · rw [if_pos ht, decide_eq_true ht]
        have := tookA1 s _ x true _ _ _ h1 h2 rfl k1 ht (k6 _ rfl)
        simpa using this
  · have e : pA s x = s := by unfold pA; rw [h1]; simp
    rw [e]
    by_cases ht : x.t = []
    · have := tookB0 s s x _ _ ⟨0, [], []⟩ 0 h1 rfl rfl rfl ht trivial
      rw [if_neg (by simp [ht])]
      simpa using this
    · rw [if_pos ht]
      have := tookB1 s s x _ _ _ _ h1 rfl rfl rfl ht (k6 s rfl)
      simpa using this
end Go.Proofs.YtalpfhpeaaocmaaGreat
end
section
set_option linter.unusedSimpArgs false
set_option linter.unusedVariables false
namespace Go.Proofs.YtalpfhpeaaocmaaGreat
open Sx Go.RowKit
set_option maxRecDepth 100000 in
set_option maxHeartbeats 1000000 in
theorem on17d (s : Pp) (x : C13.Sg) (h : pDead s = true) : FnOK Tryz.prog 17 ([.d (ppD s), .d (C13.sgD x)]) ([]) (.d (ppD s)) ([]) := by
  refine fnOK_wp (p := (FnOK Tryz.prog 26 [AV.d (ppD s)] [] (vB true) []) ∧ (rf (D.bool true)) ∧ (rf (AV.d (ppD s))) ∧ True) (h := {H := [(1, [(1, .call [] (.d (.bool true)) [])])], G := [(30, gA (.d (.bool false)))]}) (subs := []) (ws := []) (ρ := []) (by kernel_rfl) ?_
  have k := dead26 s
  rw [h] at k
  repeat' (with_reducible first | exact True.intro | apply And.intro | (first | apply zA | apply zB | apply zC | apply zD | apply zE | apply zF | apply zG) <;> intro)
  all_goals first | exact k | rfl | skip
set_option maxRecDepth 100000 in
set_option maxHeartbeats 1000000 in
theorem on17f (s s1 s2 : Pp) (x : C13.Sg) (h : pDead s = false) (f0 : 0 ≤ x.f) (f1 : x.f < 256) (hf : C13.nFit s.sh x = false) : FnOK Tryz.prog 17 ([.d (ppD s), .d (C13.sgD x)]) ([]) (.d (ppD s)) ([]) := by
  refine fnOK_wp (p := (FnOK Tryz.prog 26 [AV.d (ppD s)] [] (vB false) []) ∧ (rf (D.bool false)) ∧ (FnOK Tryz.prog 30 [AV.d (C13.ndD s.sh), AV.d (C13.sgD x)] [] (vB false) []) ∧ (rf (AV.d (ppD s))) ∧ True) (h := {H := [(1, [(1, .call [] (.d (.bool false)) []), (6, .call [] (.d (.bool false)) [])])]}) (subs := []) (ws := []) (ρ := []) (by kernel_rfl) ?_
  have k := dead26 s
  have k2 := C13.fit15 s.sh x f0 f1
  rw [h] at k
  rw [hf] at k2
  repeat' (with_reducible first | exact True.intro | apply And.intro | (first | apply zA | apply zB | apply zC | apply zD | apply zE | apply zF | apply zG) <;> intro)
  all_goals first | exact k | exact k2 | rfl | skip
set_option maxRecDepth 100000 in
set_option maxHeartbeats 1000000 in
theorem on17u (s s1 s2 : Pp) (x : C13.Sg) (h : pDead s = false) (f0 : 0 ≤ x.f) (f1 : x.f < 256) (hf : C13.nFit s.sh x = true) (hs : s1 = { s with he := s.no, sh := C13.nOn s.sh x }) (hu : pUp s1 = true) (k4 : FnOK Tryz.prog 32 [.ptr 0 0, .d (C13.sgD x)] [ppB s1] (.tup []) [ppB s2]) : FnOK Tryz.prog 17 ([.d (ppD s), .d (C13.sgD x)]) ([]) (.d (ppD s2)) ([]) := by
  refine fnOK_wp (p := (FnOK Tryz.prog 26 [AV.d (ppD s)] [] (vB false) []) ∧ (rf (D.bool false)) ∧ (FnOK Tryz.prog 30 [AV.d (C13.ndD s.sh), AV.d (C13.sgD x)] [] (vB true) []) ∧ (FnOK Tryz.prog 31 [AV.d (C13.ndD s.sh), AV.d (C13.sgD x)] [] (AV.d (.agg [D.int .u8 (C13.nOn s.sh x).g, D.int .i64 (C13.nOn s.sh x).p, D.int .i64 (C13.nOn s.sh x).e, D.int .u32 (C13.nOn s.sh x).m, D.int .u32 (C13.nOn s.sh x).h])) []) ∧ (FnOK Tryz.prog 12 [AV.d (.agg [D.int .u8 (C13.nOn s.sh x).g, D.int .i64 (C13.nOn s.sh x).p, D.int .i64 (C13.nOn s.sh x).e, D.int .u32 (C13.nOn s.sh x).m, D.int .u32 (C13.nOn s.sh x).h, D.int .i64 s.sq.b, D.str s.sq.d, D.int .i64 s.sq.n, D.sl (List.map C11.ckD s.sq.fl), D.sl (List.map C06.ivD s.sq.cm), D.int .i64 s.rq.b, D.str s.rq.r, D.sl (List.map C12.ptD s.rq.p), D.int .i64 s.rt.s, D.int .i64 s.rt.v, D.bool s.rt.k, D.int .i64 s.rt.h, D.int .i64 s.wn.w, D.int .i64 s.wn.t, D.int .i64 s.wn.p, D.int .i64 s.li, D.int .i64 s.no, D.int .i64 s.no, D.int .i64 s.nx, D.int .i64 s.pr, D.bool s.du])] [] (vB true) []) ∧ (FnOK Tryz.prog 32 [AV.ptr 0 0, AV.d (C13.sgD x)] [Ob.box [vU (C13.nOn s.sh x).g, vI (C13.nOn s.sh x).p, vI (C13.nOn s.sh x).e, vW (C13.nOn s.sh x).m, vW (C13.nOn s.sh x).h, vI s.sq.b, vS s.sq.d, vI s.sq.n, vL (List.map C11.ckD s.sq.fl), vL (List.map C06.ivD s.sq.cm), vI s.rq.b, vS s.rq.r, vL (List.map C12.ptD s.rq.p), vI s.rt.s, vI s.rt.v, vB s.rt.k, vI s.rt.h, vI s.wn.w, vI s.wn.t, vI s.wn.p, vI s.li, vI s.no, vI s.no, vI s.nx, vI s.pr, vB s.du]] (AV.tup []) [ppB s2]) ∧ (rf (AV.d (ppD s2))) ∧ True) (h := {H := [(1, [(1, .call [] (.d (.bool false)) []), (6, .call [] (.d (.bool true)) [])]), (5, [(7, .call [] (.d (C13.ndD (C13.nOn s.sh x))) [])]), (6, [(4, .call [] (.d (.bool true)) [])]), (7, [(2, .call [1144] (.tup []) [ppB s2])])]}) (subs := []) (ws := []) (ρ := []) (by kernel_rfl) ?_
  have k := dead26 s
  have k2 := C13.fit15 s.sh x f0 f1
  rw [h] at k
  rw [hf] at k2
  have k3 := alive12 s1
  rw [hu] at k3
  subst hs
  repeat' (with_reducible first | exact True.intro | apply And.intro | (first | apply zA | apply zB | apply zC | apply zD | apply zE | apply zF | apply zG) <;> intro)
  all_goals first | exact k | exact k2 | exact k3 | exact k4 | exact C13.on9 s.sh x f0 f1 | rfl | skip
set_option maxRecDepth 100000 in
set_option maxHeartbeats 1000000 in
theorem on17n (s s1 s2 : Pp) (x : C13.Sg) (h : pDead s = false) (f0 : 0 ≤ x.f) (f1 : x.f < 256) (hf : C13.nFit s.sh x = true) (hs : s1 = { s with he := s.no, sh := C13.nOn s.sh x }) (hu : pUp s1 = false) : FnOK Tryz.prog 17 ([.d (ppD s), .d (C13.sgD x)]) ([]) (.d (ppD s1)) ([]) := by
  refine fnOK_wp (p := (FnOK Tryz.prog 26 [AV.d (ppD s)] [] (vB false) []) ∧ (rf (D.bool false)) ∧ (FnOK Tryz.prog 30 [AV.d (C13.ndD s.sh), AV.d (C13.sgD x)] [] (vB true) []) ∧ (FnOK Tryz.prog 31 [AV.d (C13.ndD s.sh), AV.d (C13.sgD x)] [] (AV.d (.agg [D.int .u8 (C13.nOn s.sh x).g, D.int .i64 (C13.nOn s.sh x).p, D.int .i64 (C13.nOn s.sh x).e, D.int .u32 (C13.nOn s.sh x).m, D.int .u32 (C13.nOn s.sh x).h])) []) ∧ (FnOK Tryz.prog 12 [AV.d (.agg [D.int .u8 (C13.nOn s.sh x).g, D.int .i64 (C13.nOn s.sh x).p, D.int .i64 (C13.nOn s.sh x).e, D.int .u32 (C13.nOn s.sh x).m, D.int .u32 (C13.nOn s.sh x).h, D.int .i64 s.sq.b, D.str s.sq.d, D.int .i64 s.sq.n, D.sl (List.map C11.ckD s.sq.fl), D.sl (List.map C06.ivD s.sq.cm), D.int .i64 s.rq.b, D.str s.rq.r, D.sl (List.map C12.ptD s.rq.p), D.int .i64 s.rt.s, D.int .i64 s.rt.v, D.bool s.rt.k, D.int .i64 s.rt.h, D.int .i64 s.wn.w, D.int .i64 s.wn.t, D.int .i64 s.wn.p, D.int .i64 s.li, D.int .i64 s.no, D.int .i64 s.no, D.int .i64 s.nx, D.int .i64 s.pr, D.bool s.du])] [] (vB false) []) ∧ (AV.d (.agg [D.int .u8 (C13.nOn s.sh x).g, D.int .i64 (C13.nOn s.sh x).p, D.int .i64 (C13.nOn s.sh x).e, D.int .u32 (C13.nOn s.sh x).m, D.int .u32 (C13.nOn s.sh x).h, D.int .i64 s.sq.b, D.str s.sq.d, D.int .i64 s.sq.n, D.sl (List.map C11.ckD s.sq.fl), D.sl (List.map C06.ivD s.sq.cm), D.int .i64 s.rq.b, D.str s.rq.r, D.sl (List.map C12.ptD s.rq.p), D.int .i64 s.rt.s, D.int .i64 s.rt.v, D.bool s.rt.k, D.int .i64 s.rt.h, D.int .i64 s.wn.w, D.int .i64 s.wn.t, D.int .i64 s.wn.p, D.int .i64 s.li, D.int .i64 s.no, D.int .i64 s.no, D.int .i64 s.nx, D.int .i64 s.pr, D.bool s.du]) = AV.d (ppD s1)) ∧ True) (h := {H := [(1, [(1, .call [] (.d (.bool false)) []), (6, .call [] (.d (.bool true)) [])]), (5, [(7, .call [] (.d (C13.ndD (C13.nOn s.sh x))) [])]), (6, [(4, .call [] (.d (.bool false)) [])])]}) (subs := []) (ws := []) (ρ := []) (by kernel_rfl) ?_
  have k := dead26 s
  have k2 := C13.fit15 s.sh x f0 f1
  rw [h] at k
  rw [hf] at k2
  have k3 := alive12 s1
  rw [hu] at k3
  subst hs
  repeat' (with_reducible first | exact True.intro | apply And.intro | (first | apply zA | apply zB | apply zC | apply zD | apply zE | apply zF | apply zG) <;> intro)
  all_goals first | exact k | exact k2 | exact k3 | exact C13.on9 s.sh x f0 f1 | rfl | skip
set_option maxRecDepth 100000 in
set_option maxHeartbeats 1000000 in
theorem tick24a (s : Pp) (now : Int) (h : now ≤ s.no ∨ now > 1099511627776) : FnOK Tryz.prog 24 ([.d (ppD s), .d (.int .i64 now)]) ([]) (.d (ppD s)) ([]) := by
  refine fnOK_wp (p := condP (decide (now ≤ s.no)) ((D.bool (decide (now ≤ s.no)) = D.bool true) ∧ (rf (D.bool true)) ∧ (rf (AV.d (ppD s))) ∧ True) ((D.bool (decide (now ≤ s.no)) = D.bool false) ∧ (D.bool (decide (now > (1099511627776 : Int))) = D.bool true) ∧ (rf (AV.d (ppD s))) ∧ True)) (h := {H := [(1, [(7, .val (.bool true))])]}) (subs := []) (ws := []) (ρ := []) (by kernel_rfl) ?_
  repeat' (with_reducible first | exact True.intro | apply And.intro | (first | apply zA | apply zB | apply zC | apply zD | apply zE | apply zF | apply zG) <;> intro)
  all_goals first | rfl | (exfalso; omega) | exact dyes (by omega) | (refine congrArg D.bool ?_; simp; omega) | (refine congrArg D.bool ?_; simp [*]; done) | skip
set_option maxRecDepth 100000 in
set_option maxHeartbeats 1000000 in
theorem tick24b (s : Pp) (now : Int) (h : ¬(now ≤ s.no ∨ now > 1099511627776)) (d : Bool) (hd : pDead s = d) (h2 : d = true ∨ s.sh.g = 0) (k2 k3 k4 k5 : True) : FnOK Tryz.prog 24 ([.d (ppD s), .d (.int .i64 now)]) ([]) (.d (ppD { s with no := now })) ([]) := by
  refine fnOK_wp (p := (D.bool (decide (now ≤ s.no)) = D.bool false) ∧ (D.bool (decide (now > (1099511627776 : Int))) = D.bool false) ∧ (condP (d) ((FnOK Tryz.prog 26 [AV.d (ppD { s with no := now })] [] (vB d) []) ∧ (D.bool d = D.bool true) ∧ (rf (D.bool true)) ∧ (rf (AV.d (ppD { s with no := now }))) ∧ True) ((FnOK Tryz.prog 26 [AV.d (ppD { s with no := now })] [] (vB d) []) ∧ (D.bool d = D.bool false) ∧ (D.bool (s.sh.g == (0 : Int)) = D.bool true) ∧ (rf (AV.d (ppD { s with no := now }))) ∧ True))) (h := {H := [(1, [(4, .val (.bool false)), (7, .val (.bool false))]), (4, [(1, .call [] (.d (.bool d)) []), (7, .val (.bool true))])]}) (subs := []) (ws := []) (ρ := []) (by kernel_rfl) ?_
  have k1 := dead26 { s with no := now }
  rw [show pDead { s with no := now } = d from hd] at k1
  repeat' (with_reducible first | exact True.intro | apply And.intro | (first | apply zA | apply zB | apply zC | apply zD | apply zE | apply zF | apply zG) <;> intro)
  all_goals first | exact k1 | exact k2 | exact k3 | exact k4 | exact k5 | rfl | (exfalso; omega) | (exfalso; simp_all; done) | exact dyes (by omega) | exact dno (by omega) | (refine congrArg D.bool (beq_iff_eq.2 ?_); simp_all; done) | exact dno (fun g => h4 ⟨by assumption, g⟩) | (refine congrArg D.bool ?_; simp [*]; done) | (refine congrArg D.bool ?_; simp; omega) | skip
set_option maxRecDepth 100000 in
set_option maxHeartbeats 1000000 in
theorem tick24c (s : Pp) (now : Int) (h : ¬(now ≤ s.no ∨ now > 1099511627776)) (hd : pDead s = false) (h2 : s.sh.g ≠ 0) (h3 : IntKind.i64.wrap (now - s.he) ≥ 200) (k3 k4 k5 : True) : FnOK Tryz.prog 24 ([.d (ppD s), .d (.int .i64 now)]) ([]) (.d (ppD (pKill { s with no := now }))) ([]) := by
  refine fnOK_wp (p := (D.bool (decide (now ≤ s.no)) = D.bool false) ∧ (D.bool (decide (now > (1099511627776 : Int))) = D.bool false) ∧ (FnOK Tryz.prog 26 [AV.d (ppD { s with no := now })] [] (vB false) []) ∧ (rf (D.bool false)) ∧ (D.bool (s.sh.g == (0 : Int)) = D.bool false) ∧ (D.bool (decide (IntKind.i64.wrap (now - s.he) ≥ (200 : Int))) = D.bool true) ∧ (FnOK Tryz.prog 14 [AV.d (ppD { s with no := now })] [] (AV.d (.agg [D.int .u8 (pKill (Pp.mk s.sh s.sq s.rq s.rt s.wn s.li now s.he s.nx s.pr s.du)).sh.g, D.int .i64 (pKill (Pp.mk s.sh s.sq s.rq s.rt s.wn s.li now s.he s.nx s.pr s.du)).sh.p, D.int .i64 (pKill (Pp.mk s.sh s.sq s.rq s.rt s.wn s.li now s.he s.nx s.pr s.du)).sh.e, D.int .u32 (pKill (Pp.mk s.sh s.sq s.rq s.rt s.wn s.li now s.he s.nx s.pr s.du)).sh.m, D.int .u32 (pKill (Pp.mk s.sh s.sq s.rq s.rt s.wn s.li now s.he s.nx s.pr s.du)).sh.h, D.int .i64 (pKill (Pp.mk s.sh s.sq s.rq s.rt s.wn s.li now s.he s.nx s.pr s.du)).sq.b, D.str (pKill (Pp.mk s.sh s.sq s.rq s.rt s.wn s.li now s.he s.nx s.pr s.du)).sq.d, D.int .i64 (pKill (Pp.mk s.sh s.sq s.rq s.rt s.wn s.li now s.he s.nx s.pr s.du)).sq.n, D.sl (List.map C11.ckD (pKill (Pp.mk s.sh s.sq s.rq s.rt s.wn s.li now s.he s.nx s.pr s.du)).sq.fl), D.sl (List.map C06.ivD (pKill (Pp.mk s.sh s.sq s.rq s.rt s.wn s.li now s.he s.nx s.pr s.du)).sq.cm), D.int .i64 (pKill (Pp.mk s.sh s.sq s.rq s.rt s.wn s.li now s.he s.nx s.pr s.du)).rq.b, D.str (pKill (Pp.mk s.sh s.sq s.rq s.rt s.wn s.li now s.he s.nx s.pr s.du)).rq.r, D.sl (List.map C12.ptD (pKill (Pp.mk s.sh s.sq s.rq s.rt s.wn s.li now s.he s.nx s.pr s.du)).rq.p), D.int .i64 (pKill (Pp.mk s.sh s.sq s.rq s.rt s.wn s.li now s.he s.nx s.pr s.du)).rt.s, D.int .i64 (pKill (Pp.mk s.sh s.sq s.rq s.rt s.wn s.li now s.he s.nx s.pr s.du)).rt.v, D.bool (pKill (Pp.mk s.sh s.sq s.rq s.rt s.wn s.li now s.he s.nx s.pr s.du)).rt.k, D.int .i64 (pKill (Pp.mk s.sh s.sq s.rq s.rt s.wn s.li now s.he s.nx s.pr s.du)).rt.h, D.int .i64 (pKill (Pp.mk s.sh s.sq s.rq s.rt s.wn s.li now s.he s.nx s.pr s.du)).wn.w, D.int .i64 (pKill (Pp.mk s.sh s.sq s.rq s.rt s.wn s.li now s.he s.nx s.pr s.du)).wn.t, D.int .i64 (pKill (Pp.mk s.sh s.sq s.rq s.rt s.wn s.li now s.he s.nx s.pr s.du)).wn.p, D.int .i64 (pKill (Pp.mk s.sh s.sq s.rq s.rt s.wn s.li now s.he s.nx s.pr s.du)).li, D.int .i64 (pKill (Pp.mk s.sh s.sq s.rq s.rt s.wn s.li now s.he s.nx s.pr s.du)).no, D.int .i64 (pKill (Pp.mk s.sh s.sq s.rq s.rt s.wn s.li now s.he s.nx s.pr s.du)).he, D.int .i64 (pKill (Pp.mk s.sh s.sq s.rq s.rt s.wn s.li now s.he s.nx s.pr s.du)).nx, D.int .i64 (pKill (Pp.mk s.sh s.sq s.rq s.rt s.wn s.li now s.he s.nx s.pr s.du)).pr, D.bool (pKill (Pp.mk s.sh s.sq s.rq s.rt s.wn s.li now s.he s.nx s.pr s.du)).du])) []) ∧ (rf (AV.d (.agg [D.int .u8 (pKill (Pp.mk s.sh s.sq s.rq s.rt s.wn s.li now s.he s.nx s.pr s.du)).sh.g, D.int .i64 (pKill (Pp.mk s.sh s.sq s.rq s.rt s.wn s.li now s.he s.nx s.pr s.du)).sh.p, D.int .i64 (pKill (Pp.mk s.sh s.sq s.rq s.rt s.wn s.li now s.he s.nx s.pr s.du)).sh.e, D.int .u32 (pKill (Pp.mk s.sh s.sq s.rq s.rt s.wn s.li now s.he s.nx s.pr s.du)).sh.m, D.int .u32 (pKill (Pp.mk s.sh s.sq s.rq s.rt s.wn s.li now s.he s.nx s.pr s.du)).sh.h, D.int .i64 (pKill (Pp.mk s.sh s.sq s.rq s.rt s.wn s.li now s.he s.nx s.pr s.du)).sq.b, D.str (pKill (Pp.mk s.sh s.sq s.rq s.rt s.wn s.li now s.he s.nx s.pr s.du)).sq.d, D.int .i64 (pKill (Pp.mk s.sh s.sq s.rq s.rt s.wn s.li now s.he s.nx s.pr s.du)).sq.n, D.sl (List.map C11.ckD (pKill (Pp.mk s.sh s.sq s.rq s.rt s.wn s.li now s.he s.nx s.pr s.du)).sq.fl), D.sl (List.map C06.ivD (pKill (Pp.mk s.sh s.sq s.rq s.rt s.wn s.li now s.he s.nx s.pr s.du)).sq.cm), D.int .i64 (pKill (Pp.mk s.sh s.sq s.rq s.rt s.wn s.li now s.he s.nx s.pr s.du)).rq.b, D.str (pKill (Pp.mk s.sh s.sq s.rq s.rt s.wn s.li now s.he s.nx s.pr s.du)).rq.r, D.sl (List.map C12.ptD (pKill (Pp.mk s.sh s.sq s.rq s.rt s.wn s.li now s.he s.nx s.pr s.du)).rq.p), D.int .i64 (pKill (Pp.mk s.sh s.sq s.rq s.rt s.wn s.li now s.he s.nx s.pr s.du)).rt.s, D.int .i64 (pKill (Pp.mk s.sh s.sq s.rq s.rt s.wn s.li now s.he s.nx s.pr s.du)).rt.v, D.bool (pKill (Pp.mk s.sh s.sq s.rq s.rt s.wn s.li now s.he s.nx s.pr s.du)).rt.k, D.int .i64 (pKill (Pp.mk s.sh s.sq s.rq s.rt s.wn s.li now s.he s.nx s.pr s.du)).rt.h, D.int .i64 (pKill (Pp.mk s.sh s.sq s.rq s.rt s.wn s.li now s.he s.nx s.pr s.du)).wn.w, D.int .i64 (pKill (Pp.mk s.sh s.sq s.rq s.rt s.wn s.li now s.he s.nx s.pr s.du)).wn.t, D.int .i64 (pKill (Pp.mk s.sh s.sq s.rq s.rt s.wn s.li now s.he s.nx s.pr s.du)).wn.p, D.int .i64 (pKill (Pp.mk s.sh s.sq s.rq s.rt s.wn s.li now s.he s.nx s.pr s.du)).li, D.int .i64 (pKill (Pp.mk s.sh s.sq s.rq s.rt s.wn s.li now s.he s.nx s.pr s.du)).no, D.int .i64 (pKill (Pp.mk s.sh s.sq s.rq s.rt s.wn s.li now s.he s.nx s.pr s.du)).he, D.int .i64 (pKill (Pp.mk s.sh s.sq s.rq s.rt s.wn s.li now s.he s.nx s.pr s.du)).nx, D.int .i64 (pKill (Pp.mk s.sh s.sq s.rq s.rt s.wn s.li now s.he s.nx s.pr s.du)).pr, D.bool (pKill (Pp.mk s.sh s.sq s.rq s.rt s.wn s.li now s.he s.nx s.pr s.du)).du]))) ∧ True) (h := {H := [(1, [(4, .val (.bool false)), (7, .val (.bool false))]), (4, [(1, .call [] (.d (.bool false)) []), (7, .val (.bool false))]), (6, [(4, .val (.bool true))]), (7, [(1, .call [] (.d (ppD (pKill { s with no := now }))) [])])]}) (subs := []) (ws := []) (ρ := []) (by kernel_rfl) ?_
  have k1 := dead26 { s with no := now }
  rw [show pDead { s with no := now } = false from hd] at k1
  have k2 := kill14 { s with no := now }
  repeat' (with_reducible first | exact True.intro | apply And.intro | (first | apply zA | apply zB | apply zC | apply zD | apply zE | apply zF | apply zG) <;> intro)
  all_goals first | exact k1 | exact k2 | exact k3 | exact k4 | exact k5 | rfl | (exfalso; omega) | (exfalso; simp_all; done) | exact dyes (by omega) | exact dno (by omega) | (refine congrArg D.bool (beq_iff_eq.2 ?_); simp_all; done) | exact dno (fun g => h4 ⟨by assumption, g⟩) | (refine congrArg D.bool ?_; simp [*]; done) | (refine congrArg D.bool ?_; simp; omega) | skip
set_option maxRecDepth 100000 in
set_option maxHeartbeats 1000000 in
theorem tick24e (s : Pp) (now : Int) (h : ¬(now ≤ s.no ∨ now > 1099511627776)) (hd : pDead s = false) (h2 : s.sh.g ≠ 0) (h3 : ¬IntKind.i64.wrap (now - s.he) ≥ 200) (o w : Int) (is : Bool) (h4 : ¬(is = true ∧ IntKind.i64.wrap (now - o) ≥ w)) (k2 : FnOK Tryz.prog 45 [.d (C11.sqD s.sq)] [] (.tup [.d (.int .i64 o), .d (.bool is)]) []) (k3 : FnOK Tryz.prog 46 [.d (C08.rD s.rt)] [] (.d (.int .i64 w)) []) (k4 k5 : True) : FnOK Tryz.prog 24 ([.d (ppD s), .d (.int .i64 now)]) ([]) (.d (ppD { s with no := now })) ([]) := by
  refine fnOK_wp (p := (D.bool (decide (now ≤ s.no)) = D.bool false) ∧ (D.bool (decide (now > (1099511627776 : Int))) = D.bool false) ∧ (FnOK Tryz.prog 26 [AV.d (ppD { s with no := now })] [] (vB false) []) ∧ (rf (D.bool false)) ∧ (D.bool (s.sh.g == (0 : Int)) = D.bool false) ∧ (D.bool (decide (IntKind.i64.wrap (now - s.he) ≥ (200 : Int))) = D.bool false) ∧ (FnOK Tryz.prog 45 [AV.d (C11.sqD s.sq)] [] (AV.tup [vI o, vB is]) []) ∧ (condP (is) ((D.bool is = D.bool true) ∧ (FnOK Tryz.prog 46 [AV.d (C08.rD s.rt)] [] (vI w) []) ∧ (D.bool (decide (IntKind.i64.wrap (now - o) ≥ w)) = D.bool false) ∧ (rf (AV.d (ppD { s with no := now }))) ∧ True) ((D.bool is = D.bool false) ∧ (rf (D.bool false)) ∧ (rf (AV.d (ppD { s with no := now }))) ∧ True))) (h := {H := [(1, [(4, .val (.bool false)), (7, .val (.bool false))]), (4, [(1, .call [] (.d (.bool false)) []), (7, .val (.bool false))]), (6, [(4, .val (.bool false))]), (9, [(9, .val (.bool false))])], G := [(45, gA (.tup [.d (.int .i64 o), .d (.bool is)])), (46, gA (.d (.int .i64 w)))]}) (subs := []) (ws := []) (ρ := []) (by kernel_rfl) ?_
  have k1 := dead26 { s with no := now }
  rw [show pDead { s with no := now } = false from hd] at k1
  repeat' (with_reducible first | exact True.intro | apply And.intro | (first | apply zA | apply zB | apply zC | apply zD | apply zE | apply zF | apply zG) <;> intro)
  all_goals first | exact k1 | exact k2 | exact k3 | exact k4 | exact k5 | rfl | (exfalso; omega) | (exfalso; simp_all; done) | exact dyes (by omega) | exact dno (by omega) | (refine congrArg D.bool (beq_iff_eq.2 ?_); simp_all; done) | exact dno (fun g => h4 ⟨by assumption, g⟩) | (refine congrArg D.bool ?_; simp [*]; done) | (refine congrArg D.bool ?_; simp; omega) | skip
set_option maxRecDepth 100000 in
set_option maxHeartbeats 1000000 in
theorem tick24d (s : Pp) (now : Int) (h : ¬(now ≤ s.no ∨ now > 1099511627776)) (hd : pDead s = false) (h2 : s.sh.g ≠ 0) (h3 : ¬IntKind.i64.wrap (now - s.he) ≥ 200) (o w : Int) (h4 : IntKind.i64.wrap (now - o) ≥ w) (q : C11.Sq) (is : Bool) (k2 : FnOK Tryz.prog 45 [.d (C11.sqD s.sq)] [] (.tup [.d (.int .i64 o), .d (.bool true)]) []) (k3 : FnOK Tryz.prog 46 [.d (C08.rD s.rt)] [] (.d (.int .i64 w)) []) (k4 : FnOK Tryz.prog 47 [.d (C11.sqD s.sq)] [] (.tup [.d (C11.sqD q), .d (.bool is)]) []) : FnOK Tryz.prog 24 ([.d (ppD s), .d (.int .i64 now)]) ([]) (.d (ppD { s with no := now, sq := q, rt := C08.rExpire s.rt, wn := C10.aExpired s.wn })) ([]) := by
  refine fnOK_wp (p := (D.bool (decide (now ≤ s.no)) = D.bool false) ∧ (D.bool (decide (now > (1099511627776 : Int))) = D.bool false) ∧ (FnOK Tryz.prog 26 [AV.d (ppD { s with no := now })] [] (vB false) []) ∧ (rf (D.bool false)) ∧ (D.bool (s.sh.g == (0 : Int)) = D.bool false) ∧ (D.bool (decide (IntKind.i64.wrap (now - s.he) ≥ (200 : Int))) = D.bool false) ∧ (FnOK Tryz.prog 45 [AV.d (C11.sqD s.sq)] [] (AV.tup [vI o, vB true]) []) ∧ (rf (D.bool true)) ∧ (FnOK Tryz.prog 46 [AV.d (C08.rD s.rt)] [] (vI w) []) ∧ (D.bool (decide (IntKind.i64.wrap (now - o) ≥ w)) = D.bool true) ∧ (FnOK Tryz.prog 47 [AV.d (C11.sqD s.sq)] [] (AV.tup [AV.d (C11.sqD q), vB is]) []) ∧ (FnOK Tryz.prog 48 [AV.d (C08.rD s.rt)] [] (AV.d (.agg [D.int .i64 (C08.rExpire s.rt).s, D.int .i64 (C08.rExpire s.rt).v, D.bool (C08.rExpire s.rt).k, D.int .i64 (C08.rExpire s.rt).h])) []) ∧ (FnOK Tryz.prog 49 [AV.d (C10.aD s.wn)] [] (AV.d (.agg [D.int .i64 (C10.aExpired s.wn).w, D.int .i64 (C10.aExpired s.wn).t, D.int .i64 (C10.aExpired s.wn).p])) []) ∧ (rf (AV.d (.agg [D.int .u8 s.sh.g, D.int .i64 s.sh.p, D.int .i64 s.sh.e, D.int .u32 s.sh.m, D.int .u32 s.sh.h, D.int .i64 q.b, D.str q.d, D.int .i64 q.n, D.sl (List.map C11.ckD q.fl), D.sl (List.map C06.ivD q.cm), D.int .i64 s.rq.b, D.str s.rq.r, D.sl (List.map C12.ptD s.rq.p), D.int .i64 (C08.rExpire s.rt).s, D.int .i64 (C08.rExpire s.rt).v, D.bool (C08.rExpire s.rt).k, D.int .i64 (C08.rExpire s.rt).h, D.int .i64 (C10.aExpired s.wn).w, D.int .i64 (C10.aExpired s.wn).t, D.int .i64 (C10.aExpired s.wn).p, D.int .i64 s.li, D.int .i64 now, D.int .i64 s.he, D.int .i64 s.nx, D.int .i64 s.pr, D.bool s.du]))) ∧ True) (h := {H := [(1, [(4, .val (.bool false)), (7, .val (.bool false))]), (4, [(1, .call [] (.d (.bool false)) []), (7, .val (.bool false))]), (6, [(4, .val (.bool false))]), (9, [(8, .val (.bool true))])], G := [(45, gA (.tup [.d (.int .i64 o), .d (.bool true)])), (46, gA (.d (.int .i64 w))), (47, gA (.tup [.d (C11.sqD q), .d (.bool is)])), (48, gA (.d (C08.rD (C08.rExpire s.rt)))), (49, gA (.d (C10.aD (C10.aExpired s.wn))))]}) (subs := []) (ws := []) (ρ := []) (by kernel_rfl) ?_
  have k1 := dead26 { s with no := now }
  rw [show pDead { s with no := now } = false from hd] at k1
  have k5 := C08.expire12 s.rt
  have k6 := C10.exp19 s.wn
  repeat' (with_reducible first | exact True.intro | apply And.intro | (first | apply zA | apply zB | apply zC | apply zD | apply zE | apply zF | apply zG) <;> intro)
  all_goals first | exact k1 | exact k2 | exact k3 | exact k4 | exact k5 | exact k6 | rfl | (exfalso; omega) | (exfalso; simp_all; done) | exact dyes (by omega) | exact dno (by omega) | (refine congrArg D.bool ?_; simp [*]; done) | skip
theorem tick24 (s : Pp) (ok : C11.SqOk s.sq) (now : Int) : FnOK Tryz.prog 24 [.d (ppD s), .d (.int .i64 now)] [] (.d (ppD (pTick s now))) [] := by
  unfold pTick
  by_cases h : now ≤ s.no ∨ now > 1099511627776
  · rw [if_pos h]; exact tick24a s now h
  · rw [if_neg h]
    by_cases h2 : s.sh.g = 4 ∨ s.sh.g = 0
    · rw [if_pos h2]
      exact tick24b s now h _ rfl (h2.elim (fun g => .inl (beq_iff_eq.2 g)) .inr) trivial trivial trivial trivial
    · rw [if_neg h2]
      have hd : pDead s = false := beq_eq_false_iff_ne.2 fun g => h2 (.inl g)
      have h0 : s.sh.g ≠ 0 := fun g => h2 (.inr g)
      by_cases h3 : IntKind.i64.wrap (now - s.he) ≥ 200
      · rw [if_pos h3]; exact tick24c s now h hd h0 h3 trivial trivial trivial
      · rw [if_neg h3]
        have hf := ok.fl
        have k2 := C11.oldest16 s.sq (by omega)
        have k3 := C08.wait10 s.rt
        by_cases h4 : (C11.rOldest s.sq).2 = true ∧ IntKind.i64.wrap (now - (C11.rOldest s.sq).1) ≥ C08.rWait s.rt
        · rw [if_pos h4]
          rw [h4.1] at k2
          exact tick24d s now h hd h0 h3 _ _ h4.2 _ _ k2 k3 (C11.expire14 s.sq ok)
        · rw [if_neg h4]
          exact tick24e s now h hd h0 h3 _ _ _ h4 k2 k3 trivial trivial
set_option maxRecDepth 100000 in
set_option maxHeartbeats 1000000 in
theorem greet28n (s : Pp) (h : C13.nSays s.sh = false ∨ s.no < s.nx) (b : Bool) (hb : C13.nSays s.sh = b) : FnOK Tryz.prog 28 ([.ptr 0 0]) ([ppB s]) (.tup [.d (C13.sgD C13.sgZ), .d (.bool false)]) ([ppB s]) := by
  refine fnOK_wp (p := (FnOK Tryz.prog 53 [AV.d (C13.ndD s.sh)] [] (AV.tup [AV.d (.agg [D.int .u8 (C13.nOut s.sh).f, D.int .i64 (C13.nOut s.sh).p, D.int .i64 (C13.nOut s.sh).e, D.int .u32 (C13.nOut s.sh).q, D.int .u32 (C13.nOut s.sh).a, D.int .i64 (C13.nOut s.sh).w, D.sl (C13.nOut s.sh).k, D.str (C13.nOut s.sh).t]), vB b]) []) ∧ (condP (!b) (((D.bool !b) = D.bool true) ∧ (rf (D.bool true)) ∧ (rf (AV.tup [AV.d (.agg [D.int .u8 0, D.int .i64 0, D.int .i64 0, D.int .u32 0, D.int .u32 0, D.int .i64 0, D.sl [], D.str []]), vB false])) ∧ (rf (ppB s)) ∧ True) (((D.bool !b) = D.bool false) ∧ (D.bool (decide (s.no < s.nx)) = D.bool true) ∧ (rf (AV.tup [AV.d (.agg [D.int .u8 0, D.int .i64 0, D.int .i64 0, D.int .u32 0, D.int .u32 0, D.int .i64 0, D.sl [], D.str []]), vB false])) ∧ (rf (ppB s)) ∧ True))) (h := {H := [(1, [(5, .call [] (.tup [.d (C13.sgD (C13.nOut s.sh)), .d (.bool b)]) [])]), (2, [(14, .val (.bool true))])]}) (subs := []) (ws := []) (ρ := []) (by kernel_rfl) ?_
  have k := C13.out13 s.sh
  rw [hb] at k
  rw [hb] at h
  repeat' (with_reducible first | exact True.intro | apply And.intro | (first | apply zA | apply zB | apply zC | apply zD | apply zE | apply zF | apply zG) <;> intro)
  all_goals first | exact k | rfl | (refine congrArg D.bool ?_; simp_all; done) | (exfalso; simp_all; omega) | skip
set_option maxRecDepth 100000 in
set_option maxHeartbeats 1000000 in
theorem greet28y (s : Pp) (h : C13.nSays s.sh = true) (h2 : ¬s.no < s.nx) (w : Int) (hw : C08.rWait s.rt = w) : FnOK Tryz.prog 28 ([.ptr 0 0]) ([ppB s]) (.tup [.d (C13.sgD (C13.nOut s.sh)), .d (.bool true)]) ([ppB { s with nx := IntKind.i64.wrap (s.no + w), rt := C08.rExpire s.rt }]) := by
  refine fnOK_wp (p := (FnOK Tryz.prog 53 [AV.d (C13.ndD s.sh)] [] (AV.tup [AV.d (.agg [D.int .u8 (C13.nOut s.sh).f, D.int .i64 (C13.nOut s.sh).p, D.int .i64 (C13.nOut s.sh).e, D.int .u32 (C13.nOut s.sh).q, D.int .u32 (C13.nOut s.sh).a, D.int .i64 (C13.nOut s.sh).w, D.sl (C13.nOut s.sh).k, D.str (C13.nOut s.sh).t]), vB true]) []) ∧ (rf (D.bool false)) ∧ (D.bool (decide (s.no < s.nx)) = D.bool false) ∧ (FnOK Tryz.prog 46 [AV.d (C08.rD s.rt)] [] (vI w) []) ∧ (FnOK Tryz.prog 48 [AV.d (C08.rD s.rt)] [] (AV.d (.agg [D.int .i64 (C08.rExpire s.rt).s, D.int .i64 (C08.rExpire s.rt).v, D.bool (C08.rExpire s.rt).k, D.int .i64 (C08.rExpire s.rt).h])) []) ∧ (rf (AV.tup [AV.d (.agg [D.int .u8 (C13.nOut s.sh).f, D.int .i64 (C13.nOut s.sh).p, D.int .i64 (C13.nOut s.sh).e, D.int .u32 (C13.nOut s.sh).q, D.int .u32 (C13.nOut s.sh).a, D.int .i64 (C13.nOut s.sh).w, D.sl (C13.nOut s.sh).k, D.str (C13.nOut s.sh).t]), vB true])) ∧ (rf (Ob.box [vU s.sh.g, vI s.sh.p, vI s.sh.e, vW s.sh.m, vW s.sh.h, vI s.sq.b, vS s.sq.d, vI s.sq.n, vL (List.map C11.ckD s.sq.fl), vL (List.map C06.ivD s.sq.cm), vI s.rq.b, vS s.rq.r, vL (List.map C12.ptD s.rq.p), vI (C08.rExpire s.rt).s, vI (C08.rExpire s.rt).v, vB (C08.rExpire s.rt).k, vI (C08.rExpire s.rt).h, vI s.wn.w, vI s.wn.t, vI s.wn.p, vI s.li, vI s.no, vI s.he, vI (IntKind.i64.wrap (s.no + w)), vI s.pr, vB s.du])) ∧ True) (h := {H := [(1, [(5, .call [] (.tup [.d (C13.sgD (C13.nOut s.sh)), .d (.bool true)]) [])]), (2, [(13, .val (.bool false))])], G := [(46, gA (.d (.int .i64 w))), (48, gA (.d (C08.rD (C08.rExpire s.rt))))]}) (subs := []) (ws := []) (ρ := []) (by kernel_rfl) ?_
  have k := C13.out13 s.sh
  have k2 := C08.wait10 s.rt
  have k3 := C08.expire12 s.rt
  rw [h] at k
  rw [hw] at k2
  repeat' (with_reducible first | exact True.intro | apply And.intro | (first | apply zA | apply zB | apply zC | apply zD | apply zE | apply zF | apply zG) <;> intro)
  all_goals first | exact k | exact k2 | exact k3 | rfl | exact dno h2 | skip
theorem greet28 (s : Pp) : FnOK Tryz.prog 28 [.ptr 0 0] [ppB s] (.tup [.d (C13.sgD (pGreet s).2.1), .d (.bool (pGreet s).2.2)]) [ppB (pGreet s).1] := by
  unfold pGreet
  by_cases h : C13.nSays s.sh = false ∨ s.no < s.nx
  · rw [if_pos h]; exact greet28n s h _ rfl
  · rw [if_neg h]; exact greet28y s (by cases g : C13.nSays s.sh; exact absurd (.inl g) h; rfl) (fun g => h (.inr g)) _ rfl
set_option maxRecDepth 100000 in
set_option maxHeartbeats 1000000 in
theorem speak29a (s : Pp) (q : C11.Sq) (c : C11.Ck) (t : List UInt8) (sg : C13.Sg) (k1 : FnOK Tryz.prog 54 [.d (C11.sqD s.sq), .d (.int .i64 s.no), .d (.int .i64 s.wn.w), .d (.int .i64 s.li)] [] (.tup [.d (C11.sqD q), .d (C11.ckD c), .d (.str t)]) []) (ht : t ≠ []) (k2 : FnOK Tryz.prog 55 [.ptr 0 0, .d (.int .i64 c.f), .d (.str t)] [ppB { s with sq := q }] (.d (C13.sgD sg)) [ppB { s with sq := q, du := false }]) : FnOK Tryz.prog 29 ([.ptr 0 0]) ([ppB s]) (.tup [.d (C13.sgD sg), .d (.bool true)]) ([ppB { s with sq := q, du := false }]) := by
  refine fnOK_wp (p := (FnOK Tryz.prog 54 [AV.d (C11.sqD s.sq), vI s.no, vI s.wn.w, vI s.li] [] (AV.tup [AV.d (C11.sqD q), AV.d (C11.ckD c), vS t]) []) ∧ ((D.bool !t == []) = D.bool true) ∧ (FnOK Tryz.prog 55 [AV.ptr 0 0, vI c.f, vS t] [ppB { s with sq := q }] (AV.d (C13.sgD sg)) [ppB { s with sq := q, du := false }]) ∧ (rf (AV.tup [AV.d (C13.sgD sg), vB true])) ∧ (rf (ppB { s with sq := q, du := false })) ∧ True) (h := {H := [(2, [(1, .val (.bool true))]), (4, [(4, .call [0] (.d (C13.sgD sg)) [ppB { s with sq := q, du := false }])])], G := [(54, gA (.tup [.d (C11.sqD q), .d (C11.ckD c), .d (.str t)]))]}) (subs := []) (ws := []) (ρ := []) (by kernel_rfl) ?_
  repeat' (with_reducible first | exact True.intro | apply And.intro | (first | apply zA | apply zB | apply zC | apply zD | apply zE | apply zF | apply zG) <;> intro)
  all_goals first | exact k1 | exact k2 | rfl | exact dyes (by assumption) | exact dno (by assumption) | (refine congrArg D.bool ?_; simp [*]; done) | (exfalso; simp_all; done) | skip
set_option maxRecDepth 100000 in
set_option maxHeartbeats 1000000 in
theorem speak29b (s : Pp) (q : C11.Sq) (c : C11.Ck) (t : List UInt8) (sg : C13.Sg) (k1 : FnOK Tryz.prog 54 [.d (C11.sqD s.sq), .d (.int .i64 s.no), .d (.int .i64 s.wn.w), .d (.int .i64 s.li)] [] (.tup [.d (C11.sqD q), .d (C11.ckD c), .d (.str t)]) []) (ht : t = []) (hd : s.du = false) (hq : IntKind.i64.wrap (s.no - max s.he s.pr) < 16) (k2 : True) : FnOK Tryz.prog 29 ([.ptr 0 0]) ([ppB s]) (.tup [.d (C13.sgD C13.sgZ), .d (.bool false)]) ([ppB s]) := by
  refine fnOK_wp (p := (FnOK Tryz.prog 54 [AV.d (C11.sqD s.sq), vI s.no, vI s.wn.w, vI s.li] [] (AV.tup [AV.d (C11.sqD q), AV.d (C11.ckD c), vS t]) []) ∧ ((D.bool !t == []) = D.bool false) ∧ (D.bool s.du = D.bool false) ∧ (rf (D.bool true)) ∧ (D.bool (decide (IntKind.i64.wrap (s.no - max s.he s.pr) < (16 : Int))) = D.bool true) ∧ (rf (AV.tup [AV.d (.agg [D.int .u8 0, D.int .i64 0, D.int .i64 0, D.int .u32 0, D.int .u32 0, D.int .i64 0, D.sl [], D.str []]), vB false])) ∧ (rf (ppB s)) ∧ True) (h := {H := [(2, [(1, .val (.bool false))]), (5, [(4, .val (.bool false))]), (6, [(20, .val (.bool true))])], G := [(54, gA (.tup [.d (C11.sqD q), .d (C11.ckD c), .d (.str t)]))]}) (subs := []) (ws := []) (ρ := []) (by kernel_rfl) ?_
  repeat' (with_reducible first | exact True.intro | apply And.intro | (first | apply zA | apply zB | apply zC | apply zD | apply zE | apply zF | apply zG) <;> intro)
  all_goals first | exact k1 | exact k2 | rfl | exact dyes (by assumption) | exact dno (by assumption) | (refine congrArg D.bool ?_; simp [*]; done) | (exfalso; simp_all; done) | skip
set_option maxRecDepth 100000 in
set_option maxHeartbeats 1000000 in
theorem speak29c (s : Pp) (q : C11.Sq) (c : C11.Ck) (t : List UInt8) (sg : C13.Sg) (k1 : FnOK Tryz.prog 54 [.d (C11.sqD s.sq), .d (.int .i64 s.no), .d (.int .i64 s.wn.w), .d (.int .i64 s.li)] [] (.tup [.d (C11.sqD q), .d (C11.ckD c), .d (.str t)]) []) (ht : t = []) (hd : s.du = true) (k2 : FnOK Tryz.prog 55 [.ptr 0 0, .d (.int .i64 s.sq.n), .d (.str [])] [ppB s] (.d (C13.sgD sg)) [ppB { s with du := false }]) : FnOK Tryz.prog 29 ([.ptr 0 0]) ([ppB s]) (.tup [.d (C13.sgD sg), .d (.bool true)]) ([ppB { s with du := false }]) := by
  refine fnOK_wp (p := (FnOK Tryz.prog 54 [AV.d (C11.sqD s.sq), vI s.no, vI s.wn.w, vI s.li] [] (AV.tup [AV.d (C11.sqD q), AV.d (C11.ckD c), vS t]) []) ∧ ((D.bool !t == []) = D.bool false) ∧ (D.bool s.du = D.bool true) ∧ (rf (D.bool false)) ∧ (FnOK Tryz.prog 55 [AV.ptr 0 0, vI s.sq.n, vS []] [ppB s] (AV.d (C13.sgD sg)) [ppB { s with du := false }]) ∧ (rf (AV.tup [AV.d (C13.sgD sg), vB true])) ∧ (rf (ppB { s with du := false })) ∧ True) (h := {H := [(2, [(1, .val (.bool false))]), (5, [(4, .val (.bool true))]), (8, [(7, .call [0] (.d (C13.sgD sg)) [ppB { s with du := false }])])], G := [(54, gA (.tup [.d (C11.sqD q), .d (C11.ckD c), .d (.str t)]))]}) (subs := []) (ws := []) (ρ := []) (by kernel_rfl) ?_
  repeat' (with_reducible first | exact True.intro | apply And.intro | (first | apply zA | apply zB | apply zC | apply zD | apply zE | apply zF | apply zG) <;> intro)
  all_goals first | exact k1 | exact k2 | rfl | exact dyes (by assumption) | exact dno (by assumption) | (refine congrArg D.bool ?_; simp [*]; done) | (exfalso; simp_all; done) | skip
set_option maxRecDepth 100000 in
set_option maxHeartbeats 1000000 in
theorem speak29d (s : Pp) (q : C11.Sq) (c : C11.Ck) (t : List UInt8) (sg : C13.Sg) (k1 : FnOK Tryz.prog 54 [.d (C11.sqD s.sq), .d (.int .i64 s.no), .d (.int .i64 s.wn.w), .d (.int .i64 s.li)] [] (.tup [.d (C11.sqD q), .d (C11.ckD c), .d (.str t)]) []) (ht : t = []) (hd : s.du = false) (hq : ¬IntKind.i64.wrap (s.no - max s.he s.pr) < 16) (hf : sg.f = 2) (k2 : FnOK Tryz.prog 55 [.ptr 0 0, .d (.int .i64 s.sq.n), .d (.str [])] [ppB s] (.d (C13.sgD sg)) [ppB { s with du := false }]) : FnOK Tryz.prog 29 ([.ptr 0 0]) ([ppB s]) (.tup [.d (C13.sgD { sg with f := 18 }), .d (.bool true)]) ([ppB { s with du := false, pr := s.no }]) := by
  refine fnOK_wp (p := (FnOK Tryz.prog 54 [AV.d (C11.sqD s.sq), vI s.no, vI s.wn.w, vI s.li] [] (AV.tup [AV.d (C11.sqD q), AV.d (C11.ckD c), vS t]) []) ∧ ((D.bool !t == []) = D.bool false) ∧ (D.bool s.du = D.bool false) ∧ (rf (D.bool true)) ∧ (D.bool (decide (IntKind.i64.wrap (s.no - max s.he s.pr) < (16 : Int))) = D.bool false) ∧ (FnOK Tryz.prog 55 [AV.ptr 0 0, vI s.sq.n, vS []] [ppB s] (AV.d (C13.sgD sg)) [ppB { s with du := false }]) ∧ (D.int .u8 (bitsI BinOp.or IntKind.u8 sg.f (16 : Int)) = D.int .u8 18) ∧ (rf (AV.tup [AV.d (.agg [D.int .u8 18, D.int .i64 sg.p, D.int .i64 sg.e, D.int .u32 sg.q, D.int .u32 sg.a, D.int .i64 sg.w, D.sl sg.k, D.str sg.t]), vB true])) ∧ (rf (ppB { s with pr := s.no, du := false })) ∧ True) (h := {H := [(2, [(1, .val (.bool false))]), (5, [(4, .val (.bool false))]), (6, [(20, .val (.bool false))]), (8, [(7, .call [0] (.d (C13.sgD sg)) [ppB { s with du := false }])]), (10, [(2, .val (.int .u8 18))])], G := [(54, gA (.tup [.d (C11.sqD q), .d (C11.ckD c), .d (.str t)]))]}) (subs := []) (ws := []) (ρ := []) (by kernel_rfl) ?_
  have hb : bitsI .or .u8 sg.f 16 = 18 := by rw [hf]; rfl
  repeat' (with_reducible first | exact True.intro | apply And.intro | (first | apply zA | apply zB | apply zC | apply zD | apply zE | apply zF | apply zG) <;> intro)
  all_goals first | exact k1 | exact k2 | rfl | exact dyes (by assumption) | exact dno (by assumption) | exact congrArg (D.int .u8) hb | (refine congrArg D.bool ?_; simp [*]; done) | (exfalso; simp_all; done) | skip
/-- What is in reach of the calls. -/
structure PpR (s : Pp) : Prop where
  sq : C11.SqOk s.sq
  fl : s.sq.fl.length < 10000
  cm : s.sq.cm.length < 10000
  rq : C12.Rb s.rq
  rb : 0 ≤ s.rq.b ∧ s.rq.b ≤ 1099511627776
  rp : s.rq.p.length < 900000
  rh : C12.rHeld s.rq < 800000
  wn : -9223372036854775808 ≤ s.wn.w ∧ s.wn.w < 9223372036854775808
  li : -9223372036854775808 ≤ s.li ∧ s.li < 9223372036854775808
theorem speak29 (s : Pp) (ok : PpR s) : FnOK Tryz.prog 29 [.ptr 0 0] [ppB s] (.tup [.d (C13.sgD (pSpeak s).2.1), .d (.bool (pSpeak s).2.2)]) [ppB (pSpeak s).1] := by
  have k1 := C11.pick12 s.sq ok.sq s.no s.wn.w s.li ok.wn ok.li
  unfold pSpeak
  by_cases ht : (pPick s).2.2 ≠ []
  · rw [if_pos ht]
    exact speak29a s _ _ _ _ k1 ht (bear55 { s with sq := (pPick s).1 } ok.rq ok.rb _ _)
  · rw [if_neg ht]
    have ht : (pPick s).2.2 = [] := Decidable.not_not.1 ht
    by_cases h : s.du = false ∧ IntKind.i64.wrap (s.no - max s.he s.pr) < 16
    · rw [if_pos h]
      exact speak29b s _ _ _ ⟨0, 0, 0, 0, 0, 0, [], []⟩ k1 ht h.1 h.2 trivial
    · rw [if_neg h]
      by_cases hd : s.du = true
      · rw [if_pos hd]
        exact speak29c s _ _ _ _ k1 ht hd (bear55 s ok.rq ok.rb _ _)
      · rw [if_neg hd]
        have hd : s.du = false := by simpa using hd
        exact speak29d s _ _ _ _ k1 ht hd (fun g => h ⟨hd, g⟩) rfl (bear55 s ok.rq ok.rb _ _)
set_option maxRecDepth 100000 in
set_option maxHeartbeats 1000000 in
theorem out16u (s s' : Pp) (x : C13.Sg) (b : Bool) (h : pUp s = true) (k2 : FnOK Tryz.prog 29 [.ptr 0 0] [ppB s] (.tup [.d (C13.sgD x), .d (.bool b)]) [ppB s']) : FnOK Tryz.prog 16 ([.d (ppD s)]) ([]) (.tup [.d (ppD s'), .d (C13.sgD x), .d (.bool b)]) ([]) := by
  refine fnOK_wp (p := (FnOK Tryz.prog 12 [AV.d (ppD s)] [] (vB true) []) ∧ (FnOK Tryz.prog 29 [AV.ptr 0 0] [ppB s] (AV.tup [AV.d (C13.sgD x), vB b]) [ppB s']) ∧ (rf (AV.tup [AV.d (ppD s'), AV.d (C13.sgD x), vB b])) ∧ True) (h := {H := [(3, [(1, .call [] (.d (.bool true)) [])]), (5, [(1, .call [1088] (.tup [.d (C13.sgD x), .d (.bool b)]) [ppB s'])])]}) (subs := []) (ws := []) (ρ := []) (by kernel_rfl) ?_
  have k1 := alive12 s
  rw [h] at k1
  repeat' (with_reducible first | exact True.intro | apply And.intro | (first | apply zA | apply zB | apply zC | apply zD | apply zE | apply zF | apply zG) <;> intro)
  all_goals first | exact k1 | exact k2 | rfl | skip
set_option maxRecDepth 100000 in
set_option maxHeartbeats 1000000 in
theorem out16n (s s' : Pp) (x : C13.Sg) (b : Bool) (h : pUp s = false) (k2 : FnOK Tryz.prog 28 [.ptr 0 0] [ppB s] (.tup [.d (C13.sgD x), .d (.bool b)]) [ppB s']) : FnOK Tryz.prog 16 ([.d (ppD s)]) ([]) (.tup [.d (ppD s'), .d (C13.sgD x), .d (.bool b)]) ([]) := by
  refine fnOK_wp (p := (FnOK Tryz.prog 12 [AV.d (ppD s)] [] (vB false) []) ∧ (FnOK Tryz.prog 28 [AV.ptr 0 0] [ppB s] (AV.tup [AV.d (C13.sgD x), vB b]) [ppB s']) ∧ (rf (AV.tup [AV.d (ppD s'), AV.d (C13.sgD x), vB b])) ∧ True) (h := {H := [(3, [(1, .call [] (.d (.bool false)) [])]), (5, [(1, .call [1088] (.tup [.d (C13.sgD x), .d (.bool b)]) [ppB s'])])]}) (subs := []) (ws := []) (ρ := []) (by kernel_rfl) ?_
  have k1 := alive12 s
  rw [h] at k1
  repeat' (with_reducible first | exact True.intro | apply And.intro | (first | apply zA | apply zB | apply zC | apply zD | apply zE | apply zF | apply zG) <;> intro)
  all_goals first | exact k1 | exact k2 | rfl | skip
theorem out16 (s : Pp) (ok : PpR s) : FnOK Tryz.prog 16 [.d (ppD s)] [] (.tup [.d (ppD (pOut s).1), .d (C13.sgD (pOut s).2.1), .d (.bool (pOut s).2.2)]) [] := by
  unfold pOut
  cases h : pUp s
  · rw [if_neg (by simp)]; exact out16n s _ _ _ h (greet28 s)
  · rw [if_pos rfl]; exact out16u s _ _ _ h (speak29 s ok)
structure SgR (x : C13.Sg) : Prop where
  f : 0 ≤ x.f ∧ x.f < 256
  k : ∃ bs : List (Int × Int), x.k = bs.map bkD ∧ bs.length < 9000
  t : x.t.length < 50000
theorem on17 (s : Pp) (ok : PpR s) (x : C13.Sg) (hx : SgR x) : FnOK Tryz.prog 17 [.d (ppD s), .d (C13.sgD x)] [] (.d (ppD (pOn s x))) [] := by
  obtain ⟨bs, hk, hl⟩ := hx.k
  have hr := ok.rh
  have ht := hx.t
  unfold pOn
  cases h : pDead s
  · cases hf : C13.nFit s.sh x
    · rw [if_pos (by simp)]
      exact on17f s s s x h hx.f.1 hx.f.2 hf
    · rw [if_neg (by simp)]
      cases hu : pUp { s with he := s.no, sh := C13.nOn s.sh x }
      · rw [if_neg (by simp)]
        exact on17n s _ s x h hx.f.1 hx.f.2 hf rfl hu
      · rw [if_pos rfl]
        exact on17u s _ _ x h hx.f.1 hx.f.2 hf rfl hu (took32 { s with he := s.no, sh := C13.nOn s.sh x } ok.sq ok.fl ok.cm ok.rq ok.rp x (by show C12.rHeld s.rq + _ < _; omega) bs hk hl)
  · rw [if_pos (by simp)]
    exact on17d s x h
end Go.Proofs.YtalpfhpeaaocmaaGreat
end
section
set_option linter.unusedSimpArgs false
set_option linter.unusedVariables false
namespace Go.Proofs.YtalpfhpeaaocmaaGreat
open Sx Go.RowKit
def ppC (s : Pp) : List AV := [.d (.int .u8 s.sh.g), .d (.int .i64 s.sh.p), .d (.int .i64 s.sh.e), .d (.int .u32 s.sh.m), .d (.int .u32 s.sh.h),
  .d (.int .i64 s.sq.b), .d (.str s.sq.d), .d (.int .i64 s.sq.n), .d (.sl (s.sq.fl.map C11.ckD)), .d (.sl (s.sq.cm.map C06.ivD)),
  .d (.int .i64 s.rq.b), .d (.str s.rq.r), .d (.sl (s.rq.p.map C12.ptD)), .d (.int .i64 s.rt.s), .d (.int .i64 s.rt.v), .d (.bool s.rt.k), .d (.int .i64 s.rt.h),
  .d (.int .i64 s.wn.w), .d (.int .i64 s.wn.t), .d (.int .i64 s.wn.p), .d (.int .i64 s.li), .d (.int .i64 s.no), .d (.int .i64 s.he), .d (.int .i64 s.nx), .d (.int .i64 s.pr), .d (.bool s.du)]
def tkB (a b : Nat) (t : Tk) : Ob := .box (ppC t.e0 ++ (ppC t.e1 ++ [.own a 8, .own b 8, .d (.str t.w0), .d (.str t.w1), .d (.str t.r0), .d (.str t.r1), .d (.int .i64 t.now)]))
def tkO (t : Tk) : List Ob := [tkB 1 2 t, .row 8 (t.s0.map C13.sgD), .row 8 (t.s1.map C13.sgD)]
def tkP (t : Tk) : List Ob := [tkB 3 2 t, .gone, .row 8 (t.s1.map C13.sgD), .row 8 (t.s0.map C13.sgD)]
def tkQ (t : Tk) : List Ob := [tkB 1 3 t, .row 8 (t.s0.map C13.sgD), .gone, .row 8 (t.s1.map C13.sgD)]
set_option maxRecDepth 100000 in
set_option maxHeartbeats 1000000 in
theorem deed0 (t t' : Tk) (d : De) (hw0 : t.w0.length + d.t.length < 1000000000) (hw1 : t.w1.length + d.t.length < 1000000000) (hn : IntKind.i64.wrap d.n = d.n) (e : Pp) (n : Int) (k1 : FnOK Tryz.prog 15 [.d (ppD t.e0), .d (.str d.t)] [] (.tup [.d (ppD e), .d (.int .i64 n)]) []) (hk : d.k.tmod 9 = 0) (hz : t' = { t with e0 := e, w0 := t.w0 ++ d.t.take (max 0 (min n d.t.length)).toNat }) : FnOK Tryz.prog 9 ([.ptr 0 0, .d (deD d)]) (tkO t) (.tup []) (tkO t') := by
  refine fnOK_wp (p := (D.int .u8 (d.k.tmod (9 : Int)) = D.int .u8 0) ∧ ((9 : Int) ≠ (0 : Int)) ∧ ((0 : Int) ≤ IntKind.i64.wrap (0 : Int) ∧ IntKind.i64.wrap (0 : Int) < (↑2 : Int)) ∧ (FnOK Tryz.prog 15 [AV.d (ppD t.e0), vS d.t] [] (AV.tup [AV.d (ppD e), vI n]) []) ∧ ((0 : Int) ≤ IntKind.i64.wrap (0 : Int) ∧ IntKind.i64.wrap (0 : Int) < (↑2 : Int)) ∧ ((0 : Int) ≤ IntKind.i64.wrap (0 : Int) ∧ IntKind.i64.wrap (0 : Int) < (↑2 : Int)) ∧ ((0 : Int) ≤ (0 : Int) ∧ (0 : Int) ≤ max (0 : Int) (min n (↑d.t.length : Int)) ∧ max (0 : Int) (min n (↑d.t.length : Int)) ≤ (↑d.t.length : Int)) ∧ ((↑(t.w0.length + (List.drop 0 (List.take (max (0 : Int) (min n (↑d.t.length : Int))).toNat d.t)).length) : Int) ≤ (9223372036854775807 : Int)) ∧ ((0 : Int) ≤ IntKind.i64.wrap (0 : Int) ∧ IntKind.i64.wrap (0 : Int) < (↑2 : Int)) ∧ (rf (AV.tup [])) ∧ (Ob.box (ppC e ++ (ppC t.e1 ++ [AV.own 1 8, AV.own 2 8, vS (t.w0 ++ List.drop 0 (List.take (max (0 : Int) (min n (↑d.t.length : Int))).toNat d.t)), vS t.w1, vS t.r0, vS t.r1, vI t.now])) = Ob.box (ppC t'.e0 ++ (ppC t'.e1 ++ [AV.own 1 8, AV.own 2 8, vS t'.w0, vS t'.w1, vS t'.r0, vS t'.r1, vI t'.now]))) ∧ (Ob.row 8 (List.map C13.sgD t.s0) = Ob.row 8 (List.map C13.sgD t'.s0)) ∧ (Ob.row 8 (List.map C13.sgD t.s1) = Ob.row 8 (List.map C13.sgD t'.s1)) ∧ True) (h := {H := [(1, [(2, .val (.int .u8 0))])], G := [(15, gA (.tup [.d (ppD e), .d (.int .i64 n)]))]}) (subs := []) (ws := []) (ρ := []) (by kernel_rfl) ?_
  subst hz
  try simp only [List.length_map, hn]
  repeat' (with_reducible first | exact True.intro | apply And.intro | (first | apply zA | apply zB | apply zC | apply zD | apply zE | apply zF | apply zG) <;> intro)
  all_goals first | exact k1 | exact k2 | exact congrArg (D.int .u8) hk | exact hn2 | exact hx2 | exact congrArg (D.int .i64) hi | exact Int.ofNat_lt.2 (get_lt hx) | rfl | omega | decide | (simp [chunk, D.cells]; done) | (rw [List.map_append]; rfl) | (simp; omega) | (rw [List.drop_zero, List.length_take]; omega) | (refine congrArg D.bool ?_; simp; omega) | skip
set_option maxRecDepth 100000 in
set_option maxHeartbeats 1000000 in
theorem deed1 (t t' : Tk) (d : De) (hw0 : t.w0.length + d.t.length < 1000000000) (hw1 : t.w1.length + d.t.length < 1000000000) (hn : IntKind.i64.wrap d.n = d.n) (e : Pp) (n : Int) (k1 : FnOK Tryz.prog 15 [.d (ppD t.e1), .d (.str d.t)] [] (.tup [.d (ppD e), .d (.int .i64 n)]) []) (hk : d.k.tmod 9 = 1) (hz : t' = { t with e1 := e, w1 := t.w1 ++ d.t.take (max 0 (min n d.t.length)).toNat }) : FnOK Tryz.prog 9 ([.ptr 0 0, .d (deD d)]) (tkO t) (.tup []) (tkO t') := by
  refine fnOK_wp (p := (D.int .u8 (d.k.tmod (9 : Int)) = D.int .u8 1) ∧ ((9 : Int) ≠ (0 : Int)) ∧ ((0 : Int) ≤ IntKind.i64.wrap (1 : Int) ∧ IntKind.i64.wrap (1 : Int) < (↑2 : Int)) ∧ (FnOK Tryz.prog 15 [AV.d (ppD t.e1), vS d.t] [] (AV.tup [AV.d (ppD e), vI n]) []) ∧ ((0 : Int) ≤ IntKind.i64.wrap (1 : Int) ∧ IntKind.i64.wrap (1 : Int) < (↑2 : Int)) ∧ ((0 : Int) ≤ IntKind.i64.wrap (1 : Int) ∧ IntKind.i64.wrap (1 : Int) < (↑2 : Int)) ∧ ((0 : Int) ≤ (0 : Int) ∧ (0 : Int) ≤ max (0 : Int) (min n (↑d.t.length : Int)) ∧ max (0 : Int) (min n (↑d.t.length : Int)) ≤ (↑d.t.length : Int)) ∧ ((↑(t.w1.length + (List.drop 0 (List.take (max (0 : Int) (min n (↑d.t.length : Int))).toNat d.t)).length) : Int) ≤ (9223372036854775807 : Int)) ∧ ((0 : Int) ≤ IntKind.i64.wrap (1 : Int) ∧ IntKind.i64.wrap (1 : Int) < (↑2 : Int)) ∧ (rf (AV.tup [])) ∧ (Ob.box (ppC t.e0 ++ (ppC e ++ [AV.own 1 8, AV.own 2 8, vS t.w0, vS (t.w1 ++ List.drop 0 (List.take (max (0 : Int) (min n (↑d.t.length : Int))).toNat d.t)), vS t.r0, vS t.r1, vI t.now])) = Ob.box (ppC t'.e0 ++ (ppC t'.e1 ++ [AV.own 1 8, AV.own 2 8, vS t'.w0, vS t'.w1, vS t'.r0, vS t'.r1, vI t'.now]))) ∧ (Ob.row 8 (List.map C13.sgD t.s0) = Ob.row 8 (List.map C13.sgD t'.s0)) ∧ (Ob.row 8 (List.map C13.sgD t.s1) = Ob.row 8 (List.map C13.sgD t'.s1)) ∧ True) (h := {H := [(1, [(2, .val (.int .u8 1))])], G := [(15, gA (.tup [.d (ppD e), .d (.int .i64 n)]))]}) (subs := []) (ws := []) (ρ := []) (by kernel_rfl) ?_
  subst hz
  try simp only [List.length_map, hn]
  repeat' (with_reducible first | exact True.intro | apply And.intro | (first | apply zA | apply zB | apply zC | apply zD | apply zE | apply zF | apply zG) <;> intro)
  all_goals first | exact k1 | exact k2 | exact congrArg (D.int .u8) hk | exact hn2 | exact hx2 | exact congrArg (D.int .i64) hi | exact Int.ofNat_lt.2 (get_lt hx) | rfl | omega | decide | (simp [chunk, D.cells]; done) | (rw [List.map_append]; rfl) | (simp; omega) | (rw [List.drop_zero, List.length_take]; omega) | (refine congrArg D.bool ?_; simp; omega) | skip
set_option maxRecDepth 100000 in
set_option maxHeartbeats 1000000 in
theorem deed2 (t t' : Tk) (d : De) (hw0 : t.w0.length + d.t.length < 1000000000) (hw1 : t.w1.length + d.t.length < 1000000000) (hn : IntKind.i64.wrap d.n = d.n) (e0 e1 : Pp) (now : Int) (k1 : FnOK Tryz.prog 24 [.d (ppD t.e0), .d (.int .i64 now)] [] (.d (ppD e0)) []) (k2 : FnOK Tryz.prog 24 [.d (ppD t.e1), .d (.int .i64 now)] [] (.d (ppD e1)) []) (hnw : IntKind.i64.wrap (t.now + 1) = now) (hk : d.k.tmod 9 = 2) (hz : t' = { t with e0 := e0, e1 := e1, now := now }) : FnOK Tryz.prog 9 ([.ptr 0 0, .d (deD d)]) (tkO t) (.tup []) (tkO t') := by
  refine fnOK_wp (p := (D.int .u8 (d.k.tmod (9 : Int)) = D.int .u8 2) ∧ ((9 : Int) ≠ (0 : Int)) ∧ (D.int .i64 (IntKind.i64.wrap (t.now + (1 : Int))) = D.int .i64 now) ∧ ((0 : Int) ≤ (0 : Int) ∧ (0 : Int) < (↑2 : Int)) ∧ (FnOK Tryz.prog 24 [AV.d (ppD t.e0), vI now] [] (AV.d (ppD e0)) []) ∧ ((0 : Int) ≤ (1 : Int) ∧ (1 : Int) < (↑2 : Int)) ∧ (FnOK Tryz.prog 24 [AV.d (ppD t.e1), vI now] [] (AV.d (ppD e1)) []) ∧ ((0 : Int) ≤ (0 : Int) ∧ (0 : Int) < (↑2 : Int)) ∧ ((0 : Int) ≤ (1 : Int) ∧ (1 : Int) < (↑2 : Int)) ∧ (rf (AV.tup [])) ∧ (Ob.box (ppC e0 ++ (ppC e1 ++ [AV.own 1 8, AV.own 2 8, vS t.w0, vS t.w1, vS t.r0, vS t.r1, vI now])) = Ob.box (ppC t'.e0 ++ (ppC t'.e1 ++ [AV.own 1 8, AV.own 2 8, vS t'.w0, vS t'.w1, vS t'.r0, vS t'.r1, vI t'.now]))) ∧ (Ob.row 8 (List.map C13.sgD t.s0) = Ob.row 8 (List.map C13.sgD t'.s0)) ∧ (Ob.row 8 (List.map C13.sgD t.s1) = Ob.row 8 (List.map C13.sgD t'.s1)) ∧ True) (h := {H := [(1, [(2, .val (.int .u8 2))]), (10, [(4, .val (.int .i64 now))]), (11, [(11, .call [] (.d (ppD e0)) []), (21, .call [] (.d (ppD e1)) [])])]}) (subs := []) (ws := []) (ρ := []) (by kernel_rfl) ?_
  have hn2 := congrArg (D.int .i64) hnw
  subst hz
  try simp only [List.length_map, hn]
  repeat' (with_reducible first | exact True.intro | apply And.intro | (first | apply zA | apply zB | apply zC | apply zD | apply zE | apply zF | apply zG) <;> intro)
  all_goals first | exact k1 | exact k2 | exact congrArg (D.int .u8) hk | exact hn2 | exact hx2 | exact congrArg (D.int .i64) hi | exact Int.ofNat_lt.2 (get_lt hx) | rfl | omega | decide | (simp [chunk, D.cells]; done) | (rw [List.map_append]; rfl) | (simp; omega) | (rw [List.drop_zero, List.length_take]; omega) | (refine congrArg D.bool ?_; simp; omega) | skip
set_option maxRecDepth 100000 in
set_option maxHeartbeats 1000000 in
theorem deed3y (t t' : Tk) (d : De) (hw0 : t.w0.length + d.t.length < 1000000000) (hw1 : t.w1.length + d.t.length < 1000000000) (hn : IntKind.i64.wrap d.n = d.n) (e : Pp) (x : C13.Sg) (k1 : FnOK Tryz.prog 16 [.d (ppD t.e0)] [] (.tup [.d (ppD e), .d (C13.sgD x), .d (.bool true)]) []) (hs : t.s0.length < 1000000) (hk : d.k.tmod 9 = 3) (hz : t' = { t with e0 := e, s0 := t.s0 ++ [x] }) : FnOK Tryz.prog 9 ([.ptr 0 0, .d (deD d)]) (tkO t) (.tup []) (tkP t') := by
  refine fnOK_wp (p := (D.int .u8 (d.k.tmod (9 : Int)) = D.int .u8 3) ∧ ((9 : Int) ≠ (0 : Int)) ∧ ((0 : Int) ≤ IntKind.i64.wrap (IntKind.i64.wrap (3 : Int) - (3 : Int)) ∧ IntKind.i64.wrap (IntKind.i64.wrap (3 : Int) - (3 : Int)) < (↑2 : Int)) ∧ (FnOK Tryz.prog 16 [AV.d (ppD t.e0)] [] (AV.tup [AV.d (ppD e), AV.d (C13.sgD x), vB true]) []) ∧ ((0 : Int) ≤ IntKind.i64.wrap (IntKind.i64.wrap (3 : Int) - (3 : Int)) ∧ IntKind.i64.wrap (IntKind.i64.wrap (3 : Int) - (3 : Int)) < (↑2 : Int)) ∧ ((0 : Int) ≤ IntKind.i64.wrap (IntKind.i64.wrap (3 : Int) - (3 : Int)) ∧ IntKind.i64.wrap (IntKind.i64.wrap (3 : Int) - (3 : Int)) < (↑2 : Int)) ∧ (((List.map C13.sgD t.s0).length + [D.agg (List.take 8 [D.int .u8 x.f, D.int .i64 x.p, D.int .i64 x.e, D.int .u32 x.q, D.int .u32 x.a, D.int .i64 x.w, D.sl x.k, D.str x.t])].length) * 80 ≤ 140737488355328) ∧ (∀ (e : D), e ∈ chunk 8 1 [D.int .u8 x.f, D.int .i64 x.p, D.int .i64 x.e, D.int .u32 x.q, D.int .u32 x.a, D.int .i64 x.w, D.sl x.k, D.str x.t] → e.cells.length = 8) ∧ ((0 : Int) ≤ IntKind.i64.wrap (IntKind.i64.wrap (3 : Int) - (3 : Int)) ∧ IntKind.i64.wrap (IntKind.i64.wrap (3 : Int) - (3 : Int)) < (↑2 : Int)) ∧ (rf (AV.tup [])) ∧ (Ob.box (ppC e ++ (ppC t.e1 ++ [AV.own 2304 8, AV.own 2 8, vS t.w0, vS t.w1, vS t.r0, vS t.r1, vI t.now])) = Ob.box (ppC t'.e0 ++ (ppC t'.e1 ++ [AV.own 2304 8, AV.own 2 8, vS t'.w0, vS t'.w1, vS t'.r0, vS t'.r1, vI t'.now]))) ∧ (rf (Ob.gone)) ∧ (Ob.row 8 (List.map C13.sgD t.s1) = Ob.row 8 (List.map C13.sgD t'.s1)) ∧ (Ob.row 8 (List.map C13.sgD t.s0 ++ [D.agg (List.take 8 [D.int .u8 x.f, D.int .i64 x.p, D.int .i64 x.e, D.int .u32 x.q, D.int .u32 x.a, D.int .i64 x.w, D.sl x.k, D.str x.t])]) = Ob.row 8 (List.map C13.sgD t'.s0)) ∧ True) (h := {H := [(1, [(2, .val (.int .u8 3))])], G := [(16, gA (.tup [.d (ppD e), .d (C13.sgD x), .d (.bool true)]))]}) (subs := []) (ws := []) (ρ := []) (by kernel_rfl) ?_
  subst hz
  try simp only [List.length_map, hn]
  repeat' (with_reducible first | exact True.intro | apply And.intro | (first | apply zA | apply zB | apply zC | apply zD | apply zE | apply zF | apply zG) <;> intro)
  all_goals first | exact k1 | exact k2 | exact congrArg (D.int .u8) hk | exact hn2 | exact hx2 | exact congrArg (D.int .i64) hi | exact Int.ofNat_lt.2 (get_lt hx) | rfl | omega | decide | (simp [chunk, D.cells]; done) | (rw [List.map_append]; rfl) | (simp; omega) | (rw [List.drop_zero, List.length_take]; omega) | (refine congrArg D.bool ?_; simp; omega) | skip
set_option maxRecDepth 100000 in
set_option maxHeartbeats 1000000 in
theorem deed3n (t t' : Tk) (d : De) (hw0 : t.w0.length + d.t.length < 1000000000) (hw1 : t.w1.length + d.t.length < 1000000000) (hn : IntKind.i64.wrap d.n = d.n) (e : Pp) (x : C13.Sg) (k1 : FnOK Tryz.prog 16 [.d (ppD t.e0)] [] (.tup [.d (ppD e), .d (C13.sgD x), .d (.bool false)]) []) (hs : t.s0.length < 1000000) (hk : d.k.tmod 9 = 3) (hz : t' = { t with e0 := e }) : FnOK Tryz.prog 9 ([.ptr 0 0, .d (deD d)]) (tkO t) (.tup []) (tkO t') := by
  refine fnOK_wp (p := (D.int .u8 (d.k.tmod (9 : Int)) = D.int .u8 3) ∧ ((9 : Int) ≠ (0 : Int)) ∧ ((0 : Int) ≤ IntKind.i64.wrap (IntKind.i64.wrap (3 : Int) - (3 : Int)) ∧ IntKind.i64.wrap (IntKind.i64.wrap (3 : Int) - (3 : Int)) < (↑2 : Int)) ∧ (FnOK Tryz.prog 16 [AV.d (ppD t.e0)] [] (AV.tup [AV.d (ppD e), AV.d (C13.sgD x), vB false]) []) ∧ ((0 : Int) ≤ IntKind.i64.wrap (IntKind.i64.wrap (3 : Int) - (3 : Int)) ∧ IntKind.i64.wrap (IntKind.i64.wrap (3 : Int) - (3 : Int)) < (↑2 : Int)) ∧ (rf (AV.tup [])) ∧ (Ob.box (ppC e ++ (ppC t.e1 ++ [AV.own 1 8, AV.own 2 8, vS t.w0, vS t.w1, vS t.r0, vS t.r1, vI t.now])) = Ob.box (ppC t'.e0 ++ (ppC t'.e1 ++ [AV.own 1 8, AV.own 2 8, vS t'.w0, vS t'.w1, vS t'.r0, vS t'.r1, vI t'.now]))) ∧ (Ob.row 8 (List.map C13.sgD t.s0) = Ob.row 8 (List.map C13.sgD t'.s0)) ∧ (Ob.row 8 (List.map C13.sgD t.s1) = Ob.row 8 (List.map C13.sgD t'.s1)) ∧ True) (h := {H := [(1, [(2, .val (.int .u8 3))])], G := [(16, gA (.tup [.d (ppD e), .d (C13.sgD x), .d (.bool false)]))]}) (subs := []) (ws := []) (ρ := []) (by kernel_rfl) ?_
  subst hz
  try simp only [List.length_map, hn]
  repeat' (with_reducible first | exact True.intro | apply And.intro | (first | apply zA | apply zB | apply zC | apply zD | apply zE | apply zF | apply zG) <;> intro)
  all_goals first | exact k1 | exact k2 | exact congrArg (D.int .u8) hk | exact hn2 | exact hx2 | exact congrArg (D.int .i64) hi | exact Int.ofNat_lt.2 (get_lt hx) | rfl | omega | decide | (simp [chunk, D.cells]; done) | (rw [List.map_append]; rfl) | (simp; omega) | (rw [List.drop_zero, List.length_take]; omega) | (refine congrArg D.bool ?_; simp; omega) | skip
set_option maxRecDepth 100000 in
set_option maxHeartbeats 1000000 in
theorem deed4y (t t' : Tk) (d : De) (hw0 : t.w0.length + d.t.length < 1000000000) (hw1 : t.w1.length + d.t.length < 1000000000) (hn : IntKind.i64.wrap d.n = d.n) (e : Pp) (x : C13.Sg) (k1 : FnOK Tryz.prog 16 [.d (ppD t.e1)] [] (.tup [.d (ppD e), .d (C13.sgD x), .d (.bool true)]) []) (hs : t.s1.length < 1000000) (hk : d.k.tmod 9 = 4) (hz : t' = { t with e1 := e, s1 := t.s1 ++ [x] }) : FnOK Tryz.prog 9 ([.ptr 0 0, .d (deD d)]) (tkO t) (.tup []) (tkQ t') := by
  refine fnOK_wp (p := (D.int .u8 (d.k.tmod (9 : Int)) = D.int .u8 4) ∧ ((9 : Int) ≠ (0 : Int)) ∧ ((0 : Int) ≤ IntKind.i64.wrap (IntKind.i64.wrap (4 : Int) - (3 : Int)) ∧ IntKind.i64.wrap (IntKind.i64.wrap (4 : Int) - (3 : Int)) < (↑2 : Int)) ∧ (FnOK Tryz.prog 16 [AV.d (ppD t.e1)] [] (AV.tup [AV.d (ppD e), AV.d (C13.sgD x), vB true]) []) ∧ ((0 : Int) ≤ IntKind.i64.wrap (IntKind.i64.wrap (4 : Int) - (3 : Int)) ∧ IntKind.i64.wrap (IntKind.i64.wrap (4 : Int) - (3 : Int)) < (↑2 : Int)) ∧ ((0 : Int) ≤ IntKind.i64.wrap (IntKind.i64.wrap (4 : Int) - (3 : Int)) ∧ IntKind.i64.wrap (IntKind.i64.wrap (4 : Int) - (3 : Int)) < (↑2 : Int)) ∧ (((List.map C13.sgD t.s1).length + [D.agg (List.take 8 [D.int .u8 x.f, D.int .i64 x.p, D.int .i64 x.e, D.int .u32 x.q, D.int .u32 x.a, D.int .i64 x.w, D.sl x.k, D.str x.t])].length) * 80 ≤ 140737488355328) ∧ (∀ (e : D), e ∈ chunk 8 1 [D.int .u8 x.f, D.int .i64 x.p, D.int .i64 x.e, D.int .u32 x.q, D.int .u32 x.a, D.int .i64 x.w, D.sl x.k, D.str x.t] → e.cells.length = 8) ∧ ((0 : Int) ≤ IntKind.i64.wrap (IntKind.i64.wrap (4 : Int) - (3 : Int)) ∧ IntKind.i64.wrap (IntKind.i64.wrap (4 : Int) - (3 : Int)) < (↑2 : Int)) ∧ (rf (AV.tup [])) ∧ (Ob.box (ppC t.e0 ++ (ppC e ++ [AV.own 1 8, AV.own 2304 8, vS t.w0, vS t.w1, vS t.r0, vS t.r1, vI t.now])) = Ob.box (ppC t'.e0 ++ (ppC t'.e1 ++ [AV.own 1 8, AV.own 2304 8, vS t'.w0, vS t'.w1, vS t'.r0, vS t'.r1, vI t'.now]))) ∧ (Ob.row 8 (List.map C13.sgD t.s0) = Ob.row 8 (List.map C13.sgD t'.s0)) ∧ (rf (Ob.gone)) ∧ (Ob.row 8 (List.map C13.sgD t.s1 ++ [D.agg (List.take 8 [D.int .u8 x.f, D.int .i64 x.p, D.int .i64 x.e, D.int .u32 x.q, D.int .u32 x.a, D.int .i64 x.w, D.sl x.k, D.str x.t])]) = Ob.row 8 (List.map C13.sgD t'.s1)) ∧ True) (h := {H := [(1, [(2, .val (.int .u8 4))])], G := [(16, gA (.tup [.d (ppD e), .d (C13.sgD x), .d (.bool true)]))]}) (subs := []) (ws := []) (ρ := []) (by kernel_rfl) ?_
  subst hz
  try simp only [List.length_map, hn]
  repeat' (with_reducible first | exact True.intro | apply And.intro | (first | apply zA | apply zB | apply zC | apply zD | apply zE | apply zF | apply zG) <;> intro)
  all_goals first | exact k1 | exact k2 | exact congrArg (D.int .u8) hk | exact hn2 | exact hx2 | exact congrArg (D.int .i64) hi | exact Int.ofNat_lt.2 (get_lt hx) | rfl | omega | decide | (simp [chunk, D.cells]; done) | (rw [List.map_append]; rfl) | (simp; omega) | (rw [List.drop_zero, List.length_take]; omega) | (refine congrArg D.bool ?_; simp; omega) | skip
set_option maxRecDepth 100000 in
set_option maxHeartbeats 1000000 in
theorem deed4n (t t' : Tk) (d : De) (hw0 : t.w0.length + d.t.length < 1000000000) (hw1 : t.w1.length + d.t.length < 1000000000) (hn : IntKind.i64.wrap d.n = d.n) (e : Pp) (x : C13.Sg) (k1 : FnOK Tryz.prog 16 [.d (ppD t.e1)] [] (.tup [.d (ppD e), .d (C13.sgD x), .d (.bool false)]) []) (hs : t.s1.length < 1000000) (hk : d.k.tmod 9 = 4) (hz : t' = { t with e1 := e }) : FnOK Tryz.prog 9 ([.ptr 0 0, .d (deD d)]) (tkO t) (.tup []) (tkO t') := by
  refine fnOK_wp (p := (D.int .u8 (d.k.tmod (9 : Int)) = D.int .u8 4) ∧ ((9 : Int) ≠ (0 : Int)) ∧ ((0 : Int) ≤ IntKind.i64.wrap (IntKind.i64.wrap (4 : Int) - (3 : Int)) ∧ IntKind.i64.wrap (IntKind.i64.wrap (4 : Int) - (3 : Int)) < (↑2 : Int)) ∧ (FnOK Tryz.prog 16 [AV.d (ppD t.e1)] [] (AV.tup [AV.d (ppD e), AV.d (C13.sgD x), vB false]) []) ∧ ((0 : Int) ≤ IntKind.i64.wrap (IntKind.i64.wrap (4 : Int) - (3 : Int)) ∧ IntKind.i64.wrap (IntKind.i64.wrap (4 : Int) - (3 : Int)) < (↑2 : Int)) ∧ (rf (AV.tup [])) ∧ (Ob.box (ppC t.e0 ++ (ppC e ++ [AV.own 1 8, AV.own 2 8, vS t.w0, vS t.w1, vS t.r0, vS t.r1, vI t.now])) = Ob.box (ppC t'.e0 ++ (ppC t'.e1 ++ [AV.own 1 8, AV.own 2 8, vS t'.w0, vS t'.w1, vS t'.r0, vS t'.r1, vI t'.now]))) ∧ (Ob.row 8 (List.map C13.sgD t.s0) = Ob.row 8 (List.map C13.sgD t'.s0)) ∧ (Ob.row 8 (List.map C13.sgD t.s1) = Ob.row 8 (List.map C13.sgD t'.s1)) ∧ True) (h := {H := [(1, [(2, .val (.int .u8 4))])], G := [(16, gA (.tup [.d (ppD e), .d (C13.sgD x), .d (.bool false)]))]}) (subs := []) (ws := []) (ρ := []) (by kernel_rfl) ?_
  subst hz
  try simp only [List.length_map, hn]
  repeat' (with_reducible first | exact True.intro | apply And.intro | (first | apply zA | apply zB | apply zC | apply zD | apply zE | apply zF | apply zG) <;> intro)
  all_goals first | exact k1 | exact k2 | exact congrArg (D.int .u8) hk | exact hn2 | exact hx2 | exact congrArg (D.int .i64) hi | exact Int.ofNat_lt.2 (get_lt hx) | rfl | omega | decide | (simp [chunk, D.cells]; done) | (rw [List.map_append]; rfl) | (simp; omega) | (rw [List.drop_zero, List.length_take]; omega) | (refine congrArg D.bool ?_; simp; omega) | skip
set_option maxRecDepth 100000 in
set_option maxHeartbeats 1000000 in
theorem deed5y (t t' : Tk) (d : De) (hw0 : t.w0.length + d.t.length < 1000000000) (hw1 : t.w1.length + d.t.length < 1000000000) (hn : IntKind.i64.wrap d.n = d.n) (e : Pp) (x : C13.Sg) (i : Nat) (k1 : FnOK Tryz.prog 17 [.d (ppD t.e1), .d (C13.sgD x)] [] (.d (ppD e)) []) (hs : t.s0.length < 1000000) (hl : 0 < t.s0.length) (hi : d.n.tmod t.s0.length = (i : Int)) (hx : t.s0[i]? = some x) (hk : d.k.tmod 9 = 5) (hz : t' = { t with e1 := e }) : FnOK Tryz.prog 9 ([.ptr 0 0, .d (deD d)]) (tkO t) (.tup []) (tkO t') := by
  refine fnOK_wp (p := (D.int .u8 (d.k.tmod (9 : Int)) = D.int .u8 5) ∧ ((9 : Int) ≠ (0 : Int)) ∧ ((0 : Int) ≤ IntKind.i64.wrap (IntKind.i64.wrap (5 : Int) - (5 : Int)) ∧ IntKind.i64.wrap (IntKind.i64.wrap (5 : Int) - (5 : Int)) < (↑2 : Int)) ∧ (D.bool (decide ((↑(List.map C13.sgD t.s0).length : Int) > (0 : Int))) = D.bool true) ∧ ((0 : Int) ≤ IntKind.i64.wrap ((6 : Int) - IntKind.i64.wrap (5 : Int)) ∧ IntKind.i64.wrap ((6 : Int) - IntKind.i64.wrap (5 : Int)) < (↑2 : Int)) ∧ (D.int .i64 ((IntKind.i64.wrap d.n).tmod (↑(List.map C13.sgD t.s0).length : Int)) = D.int .i64 (↑i : Int)) ∧ ((↑(List.map C13.sgD t.s0).length : Int) ≠ (0 : Int)) ∧ ((0 : Int) ≤ (↑i : Int) ∧ (↑i : Int) < (↑(List.map C13.sgD t.s0).length : Int)) ∧ (8 = 8) ∧ ((List.map C13.sgD t.s0)[(↑i : Int).toNat]? = some (C13.sgD x)) ∧ (FnOK Tryz.prog 17 [AV.d (ppD t.e1), AV.d (C13.sgD x)] [] (AV.d (ppD e)) []) ∧ ((0 : Int) ≤ IntKind.i64.wrap ((6 : Int) - IntKind.i64.wrap (5 : Int)) ∧ IntKind.i64.wrap ((6 : Int) - IntKind.i64.wrap (5 : Int)) < (↑2 : Int)) ∧ (rf (AV.tup [])) ∧ (Ob.box (ppC t.e0 ++ (ppC e ++ [AV.own 1 8, AV.own 2 8, vS t.w0, vS t.w1, vS t.r0, vS t.r1, vI t.now])) = Ob.box (ppC t'.e0 ++ (ppC t'.e1 ++ [AV.own 1 8, AV.own 2 8, vS t'.w0, vS t'.w1, vS t'.r0, vS t'.r1, vI t'.now]))) ∧ (Ob.row 8 (List.map C13.sgD t.s0) = Ob.row 8 (List.map C13.sgD t'.s0)) ∧ (Ob.row 8 (List.map C13.sgD t.s1) = Ob.row 8 (List.map C13.sgD t'.s1)) ∧ True) (h := {els := [(197, .el (C13.sgD x))], H := [(1, [(2, .val (.int .u8 5))]), (19, [(2, .val (.bool true))]), (20, [(16, .val (.int .i64 i))])], G := [(17, gA (.d (ppD e)))]}) (subs := []) (ws := []) (ρ := []) (by kernel_rfl) ?_
  have hx2 : (t.s0.map C13.sgD)[i]? = some (C13.sgD x) := el_map hx rfl
  subst hz
  try simp only [List.length_map, hn]
  repeat' (with_reducible first | exact True.intro | apply And.intro | (first | apply zA | apply zB | apply zC | apply zD | apply zE | apply zF | apply zG) <;> intro)
  all_goals first | exact k1 | exact k2 | exact congrArg (D.int .u8) hk | exact hn2 | exact hx2 | exact congrArg (D.int .i64) hi | exact Int.ofNat_lt.2 (get_lt hx) | rfl | omega | decide | (simp [chunk, D.cells]; done) | (rw [List.map_append]; rfl) | (simp; omega) | (rw [List.drop_zero, List.length_take]; omega) | (refine congrArg D.bool ?_; simp; omega) | skip
set_option maxRecDepth 100000 in
set_option maxHeartbeats 1000000 in
theorem deed5n (t t' : Tk) (d : De) (hw0 : t.w0.length + d.t.length < 1000000000) (hw1 : t.w1.length + d.t.length < 1000000000) (hn : IntKind.i64.wrap d.n = d.n) (hl : t.s0 = []) (hk : d.k.tmod 9 = 5) (hz : t' = t) : FnOK Tryz.prog 9 ([.ptr 0 0, .d (deD d)]) (tkO t) (.tup []) (tkO t') := by
  refine fnOK_wp (p := (D.int .u8 (d.k.tmod (9 : Int)) = D.int .u8 5) ∧ ((9 : Int) ≠ (0 : Int)) ∧ ((0 : Int) ≤ IntKind.i64.wrap (IntKind.i64.wrap (5 : Int) - (5 : Int)) ∧ IntKind.i64.wrap (IntKind.i64.wrap (5 : Int) - (5 : Int)) < (↑2 : Int)) ∧ (D.bool (decide ((↑(List.map C13.sgD t.s0).length : Int) > (0 : Int))) = D.bool false) ∧ (rf (AV.tup [])) ∧ (Ob.box (ppC t.e0 ++ (ppC t.e1 ++ [AV.own 1 8, AV.own 2 8, vS t.w0, vS t.w1, vS t.r0, vS t.r1, vI t.now])) = Ob.box (ppC t'.e0 ++ (ppC t'.e1 ++ [AV.own 1 8, AV.own 2 8, vS t'.w0, vS t'.w1, vS t'.r0, vS t'.r1, vI t'.now]))) ∧ (Ob.row 8 (List.map C13.sgD t.s0) = Ob.row 8 (List.map C13.sgD t'.s0)) ∧ (Ob.row 8 (List.map C13.sgD t.s1) = Ob.row 8 (List.map C13.sgD t'.s1)) ∧ True) (h := {H := [(1, [(2, .val (.int .u8 5))]), (19, [(2, .val (.bool false))])]}) (subs := []) (ws := []) (ρ := []) (by kernel_rfl) ?_
  subst hz
  try simp only [List.length_map, hn]
  repeat' (with_reducible first | exact True.intro | apply And.intro | (first | apply zA | apply zB | apply zC | apply zD | apply zE | apply zF | apply zG) <;> intro)
  all_goals first | exact k1 | exact k2 | exact congrArg (D.int .u8) hk | exact hn2 | exact hx2 | exact congrArg (D.int .i64) hi | exact Int.ofNat_lt.2 (get_lt hx) | rfl | omega | decide | (simp [chunk, D.cells]; done) | (rw [List.map_append]; rfl) | (simp; omega) | (rw [List.drop_zero, List.length_take]; omega) | (refine congrArg D.bool ?_; simp; omega) | skip
set_option maxRecDepth 100000 in
set_option maxHeartbeats 1000000 in
theorem deed6y (t t' : Tk) (d : De) (hw0 : t.w0.length + d.t.length < 1000000000) (hw1 : t.w1.length + d.t.length < 1000000000) (hn : IntKind.i64.wrap d.n = d.n) (e : Pp) (x : C13.Sg) (i : Nat) (k1 : FnOK Tryz.prog 17 [.d (ppD t.e0), .d (C13.sgD x)] [] (.d (ppD e)) []) (hs : t.s1.length < 1000000) (hl : 0 < t.s1.length) (hi : d.n.tmod t.s1.length = (i : Int)) (hx : t.s1[i]? = some x) (hk : d.k.tmod 9 = 6) (hz : t' = { t with e0 := e }) : FnOK Tryz.prog 9 ([.ptr 0 0, .d (deD d)]) (tkO t) (.tup []) (tkO t') := by
  refine fnOK_wp (p := (D.int .u8 (d.k.tmod (9 : Int)) = D.int .u8 6) ∧ ((9 : Int) ≠ (0 : Int)) ∧ ((0 : Int) ≤ IntKind.i64.wrap (IntKind.i64.wrap (6 : Int) - (5 : Int)) ∧ IntKind.i64.wrap (IntKind.i64.wrap (6 : Int) - (5 : Int)) < (↑2 : Int)) ∧ (D.bool (decide ((↑(List.map C13.sgD t.s1).length : Int) > (0 : Int))) = D.bool true) ∧ ((0 : Int) ≤ IntKind.i64.wrap ((6 : Int) - IntKind.i64.wrap (6 : Int)) ∧ IntKind.i64.wrap ((6 : Int) - IntKind.i64.wrap (6 : Int)) < (↑2 : Int)) ∧ (D.int .i64 ((IntKind.i64.wrap d.n).tmod (↑(List.map C13.sgD t.s1).length : Int)) = D.int .i64 (↑i : Int)) ∧ ((↑(List.map C13.sgD t.s1).length : Int) ≠ (0 : Int)) ∧ ((0 : Int) ≤ (↑i : Int) ∧ (↑i : Int) < (↑(List.map C13.sgD t.s1).length : Int)) ∧ (8 = 8) ∧ ((List.map C13.sgD t.s1)[(↑i : Int).toNat]? = some (C13.sgD x)) ∧ (FnOK Tryz.prog 17 [AV.d (ppD t.e0), AV.d (C13.sgD x)] [] (AV.d (ppD e)) []) ∧ ((0 : Int) ≤ IntKind.i64.wrap ((6 : Int) - IntKind.i64.wrap (6 : Int)) ∧ IntKind.i64.wrap ((6 : Int) - IntKind.i64.wrap (6 : Int)) < (↑2 : Int)) ∧ (rf (AV.tup [])) ∧ (Ob.box (ppC e ++ (ppC t.e1 ++ [AV.own 1 8, AV.own 2 8, vS t.w0, vS t.w1, vS t.r0, vS t.r1, vI t.now])) = Ob.box (ppC t'.e0 ++ (ppC t'.e1 ++ [AV.own 1 8, AV.own 2 8, vS t'.w0, vS t'.w1, vS t'.r0, vS t'.r1, vI t'.now]))) ∧ (Ob.row 8 (List.map C13.sgD t.s0) = Ob.row 8 (List.map C13.sgD t'.s0)) ∧ (Ob.row 8 (List.map C13.sgD t.s1) = Ob.row 8 (List.map C13.sgD t'.s1)) ∧ True) (h := {els := [(197, .el (C13.sgD x))], H := [(1, [(2, .val (.int .u8 6))]), (19, [(2, .val (.bool true))]), (20, [(16, .val (.int .i64 i))])], G := [(17, gA (.d (ppD e)))]}) (subs := []) (ws := []) (ρ := []) (by kernel_rfl) ?_
  have hx2 : (t.s1.map C13.sgD)[i]? = some (C13.sgD x) := el_map hx rfl
  subst hz
  try simp only [List.length_map, hn]
  repeat' (with_reducible first | exact True.intro | apply And.intro | (first | apply zA | apply zB | apply zC | apply zD | apply zE | apply zF | apply zG) <;> intro)
  all_goals first | exact k1 | exact k2 | exact congrArg (D.int .u8) hk | exact hn2 | exact hx2 | exact congrArg (D.int .i64) hi | exact Int.ofNat_lt.2 (get_lt hx) | rfl | omega | decide | (simp [chunk, D.cells]; done) | (rw [List.map_append]; rfl) | (simp; omega) | (rw [List.drop_zero, List.length_take]; omega) | (refine congrArg D.bool ?_; simp; omega) | skip
set_option maxRecDepth 100000 in
set_option maxHeartbeats 1000000 in
theorem deed6n (t t' : Tk) (d : De) (hw0 : t.w0.length + d.t.length < 1000000000) (hw1 : t.w1.length + d.t.length < 1000000000) (hn : IntKind.i64.wrap d.n = d.n) (hl : t.s1 = []) (hk : d.k.tmod 9 = 6) (hz : t' = t) : FnOK Tryz.prog 9 ([.ptr 0 0, .d (deD d)]) (tkO t) (.tup []) (tkO t') := by
  refine fnOK_wp (p := (D.int .u8 (d.k.tmod (9 : Int)) = D.int .u8 6) ∧ ((9 : Int) ≠ (0 : Int)) ∧ ((0 : Int) ≤ IntKind.i64.wrap (IntKind.i64.wrap (6 : Int) - (5 : Int)) ∧ IntKind.i64.wrap (IntKind.i64.wrap (6 : Int) - (5 : Int)) < (↑2 : Int)) ∧ (D.bool (decide ((↑(List.map C13.sgD t.s1).length : Int) > (0 : Int))) = D.bool false) ∧ (rf (AV.tup [])) ∧ (Ob.box (ppC t.e0 ++ (ppC t.e1 ++ [AV.own 1 8, AV.own 2 8, vS t.w0, vS t.w1, vS t.r0, vS t.r1, vI t.now])) = Ob.box (ppC t'.e0 ++ (ppC t'.e1 ++ [AV.own 1 8, AV.own 2 8, vS t'.w0, vS t'.w1, vS t'.r0, vS t'.r1, vI t'.now]))) ∧ (Ob.row 8 (List.map C13.sgD t.s0) = Ob.row 8 (List.map C13.sgD t'.s0)) ∧ (Ob.row 8 (List.map C13.sgD t.s1) = Ob.row 8 (List.map C13.sgD t'.s1)) ∧ True) (h := {H := [(1, [(2, .val (.int .u8 6))]), (19, [(2, .val (.bool false))])]}) (subs := []) (ws := []) (ρ := []) (by kernel_rfl) ?_
  subst hz
  try simp only [List.length_map, hn]
  repeat' (with_reducible first | exact True.intro | apply And.intro | (first | apply zA | apply zB | apply zC | apply zD | apply zE | apply zF | apply zG) <;> intro)
  all_goals first | exact k1 | exact k2 | exact congrArg (D.int .u8) hk | exact hn2 | exact hx2 | exact congrArg (D.int .i64) hi | exact Int.ofNat_lt.2 (get_lt hx) | rfl | omega | decide | (simp [chunk, D.cells]; done) | (rw [List.map_append]; rfl) | (simp; omega) | (rw [List.drop_zero, List.length_take]; omega) | (refine congrArg D.bool ?_; simp; omega) | skip
set_option maxRecDepth 100000 in
set_option maxHeartbeats 1000000 in
theorem deed7 (t t' : Tk) (d : De) (hw0 : t.w0.length + d.t.length < 1000000000) (hw1 : t.w1.length + d.t.length < 1000000000) (hn : IntKind.i64.wrap d.n = d.n) (e : Pp) (u : List UInt8) (k1 : FnOK Tryz.prog 19 [.d (ppD t.e0), .d (.int .i64 d.n)] [] (.tup [.d (ppD e), .d (.str u)]) []) (hr : t.r0.length + u.length < 1000000000) (hk : d.k.tmod 9 = 7) (hz : t' = { t with e0 := e, r0 := t.r0 ++ u }) : FnOK Tryz.prog 9 ([.ptr 0 0, .d (deD d)]) (tkO t) (.tup []) (tkO t') := by
  refine fnOK_wp (p := (D.int .u8 (d.k.tmod (9 : Int)) = D.int .u8 7) ∧ ((9 : Int) ≠ (0 : Int)) ∧ ((0 : Int) ≤ IntKind.i64.wrap (IntKind.i64.wrap (7 : Int) - (7 : Int)) ∧ IntKind.i64.wrap (IntKind.i64.wrap (7 : Int) - (7 : Int)) < (↑2 : Int)) ∧ (FnOK Tryz.prog 19 [AV.d (ppD t.e0), vI (IntKind.i64.wrap d.n)] [] (AV.tup [AV.d (ppD e), vS u]) []) ∧ ((0 : Int) ≤ IntKind.i64.wrap (IntKind.i64.wrap (7 : Int) - (7 : Int)) ∧ IntKind.i64.wrap (IntKind.i64.wrap (7 : Int) - (7 : Int)) < (↑2 : Int)) ∧ ((0 : Int) ≤ IntKind.i64.wrap (IntKind.i64.wrap (7 : Int) - (7 : Int)) ∧ IntKind.i64.wrap (IntKind.i64.wrap (7 : Int) - (7 : Int)) < (↑2 : Int)) ∧ ((↑(t.r0.length + u.length) : Int) ≤ (9223372036854775807 : Int)) ∧ ((0 : Int) ≤ IntKind.i64.wrap (IntKind.i64.wrap (7 : Int) - (7 : Int)) ∧ IntKind.i64.wrap (IntKind.i64.wrap (7 : Int) - (7 : Int)) < (↑2 : Int)) ∧ (rf (AV.tup [])) ∧ (Ob.box (ppC e ++ (ppC t.e1 ++ [AV.own 1 8, AV.own 2 8, vS t.w0, vS t.w1, vS (t.r0 ++ u), vS t.r1, vI t.now])) = Ob.box (ppC t'.e0 ++ (ppC t'.e1 ++ [AV.own 1 8, AV.own 2 8, vS t'.w0, vS t'.w1, vS t'.r0, vS t'.r1, vI t'.now]))) ∧ (Ob.row 8 (List.map C13.sgD t.s0) = Ob.row 8 (List.map C13.sgD t'.s0)) ∧ (Ob.row 8 (List.map C13.sgD t.s1) = Ob.row 8 (List.map C13.sgD t'.s1)) ∧ True) (h := {H := [(1, [(2, .val (.int .u8 7))])], G := [(19, gA (.tup [.d (ppD e), .d (.str u)]))]}) (subs := []) (ws := []) (ρ := []) (by kernel_rfl) ?_
  subst hz
  try simp only [List.length_map, hn]
  repeat' (with_reducible first | exact True.intro | apply And.intro | (first | apply zA | apply zB | apply zC | apply zD | apply zE | apply zF | apply zG) <;> intro)
  all_goals first | exact k1 | exact k2 | exact congrArg (D.int .u8) hk | exact hn2 | exact hx2 | exact congrArg (D.int .i64) hi | exact Int.ofNat_lt.2 (get_lt hx) | rfl | omega | decide | (simp [chunk, D.cells]; done) | (rw [List.map_append]; rfl) | (simp; omega) | (rw [List.drop_zero, List.length_take]; omega) | (refine congrArg D.bool ?_; simp; omega) | skip
set_option maxRecDepth 100000 in
set_option maxHeartbeats 1000000 in
theorem deed8 (t t' : Tk) (d : De) (hw0 : t.w0.length + d.t.length < 1000000000) (hw1 : t.w1.length + d.t.length < 1000000000) (hn : IntKind.i64.wrap d.n = d.n) (e : Pp) (u : List UInt8) (k1 : FnOK Tryz.prog 19 [.d (ppD t.e1), .d (.int .i64 d.n)] [] (.tup [.d (ppD e), .d (.str u)]) []) (hr : t.r1.length + u.length < 1000000000) (hk : d.k.tmod 9 = 8) (hz : t' = { t with e1 := e, r1 := t.r1 ++ u }) : FnOK Tryz.prog 9 ([.ptr 0 0, .d (deD d)]) (tkO t) (.tup []) (tkO t') := by
  refine fnOK_wp (p := (D.int .u8 (d.k.tmod (9 : Int)) = D.int .u8 8) ∧ ((9 : Int) ≠ (0 : Int)) ∧ ((0 : Int) ≤ IntKind.i64.wrap (IntKind.i64.wrap (8 : Int) - (7 : Int)) ∧ IntKind.i64.wrap (IntKind.i64.wrap (8 : Int) - (7 : Int)) < (↑2 : Int)) ∧ (FnOK Tryz.prog 19 [AV.d (ppD t.e1), vI (IntKind.i64.wrap d.n)] [] (AV.tup [AV.d (ppD e), vS u]) []) ∧ ((0 : Int) ≤ IntKind.i64.wrap (IntKind.i64.wrap (8 : Int) - (7 : Int)) ∧ IntKind.i64.wrap (IntKind.i64.wrap (8 : Int) - (7 : Int)) < (↑2 : Int)) ∧ ((0 : Int) ≤ IntKind.i64.wrap (IntKind.i64.wrap (8 : Int) - (7 : Int)) ∧ IntKind.i64.wrap (IntKind.i64.wrap (8 : Int) - (7 : Int)) < (↑2 : Int)) ∧ ((↑(t.r1.length + u.length) : Int) ≤ (9223372036854775807 : Int)) ∧ ((0 : Int) ≤ IntKind.i64.wrap (IntKind.i64.wrap (8 : Int) - (7 : Int)) ∧ IntKind.i64.wrap (IntKind.i64.wrap (8 : Int) - (7 : Int)) < (↑2 : Int)) ∧ (rf (AV.tup [])) ∧ (Ob.box (ppC t.e0 ++ (ppC e ++ [AV.own 1 8, AV.own 2 8, vS t.w0, vS t.w1, vS t.r0, vS (t.r1 ++ u), vI t.now])) = Ob.box (ppC t'.e0 ++ (ppC t'.e1 ++ [AV.own 1 8, AV.own 2 8, vS t'.w0, vS t'.w1, vS t'.r0, vS t'.r1, vI t'.now]))) ∧ (Ob.row 8 (List.map C13.sgD t.s0) = Ob.row 8 (List.map C13.sgD t'.s0)) ∧ (Ob.row 8 (List.map C13.sgD t.s1) = Ob.row 8 (List.map C13.sgD t'.s1)) ∧ True) (h := {H := [(1, [(2, .val (.int .u8 8))])], G := [(19, gA (.tup [.d (ppD e), .d (.str u)]))]}) (subs := []) (ws := []) (ρ := []) (by kernel_rfl) ?_
  subst hz
  try simp only [List.length_map, hn]
  repeat' (with_reducible first | exact True.intro | apply And.intro | (first | apply zA | apply zB | apply zC | apply zD | apply zE | apply zF | apply zG) <;> intro)
  all_goals first | exact k1 | exact k2 | exact congrArg (D.int .u8) hk | exact hn2 | exact hx2 | exact congrArg (D.int .i64) hi | exact Int.ofNat_lt.2 (get_lt hx) | rfl | omega | decide | (simp [chunk, D.cells]; done) | (rw [List.map_append]; rfl) | (simp; omega) | (rw [List.drop_zero, List.length_take]; omega) | (refine congrArg D.bool ?_; simp; omega) | skip
end Go.Proofs.YtalpfhpeaaocmaaGreat
end
section
set_option linter.unusedSimpArgs false
set_option linter.unusedVariables false
namespace Go.Proofs.YtalpfhpeaaocmaaGreat.C12
open Sx Go.RowKit
theorem srt_sum {lim : Int} : ∀ {l : List Pt} {e : Int}, Srt e l → (∀ y ∈ l, pEnd y ≤ lim) → e ≤ lim → (sumD l : Int) ≤ lim - e ∧ ((∀ y ∈ l, y.d ≠ []) → (l.length : Int) ≤ lim - e)
  | [], e, _, _, h => by
    refine ⟨?_, fun _ => ?_⟩
    · show (0 : Int) ≤ _; omega
    · show (0 : Int) ≤ _; omega
  | x :: l, e, hs, hp, h => by
    have h1 := hp x (by simp)
    have h0 := hs.1
    have h2 := srt_sum hs.2 (fun y hy => hp y (List.mem_cons_of_mem _ hy)) h1
    have h3 : pEnd x = x.a + x.d.length := rfl
    refine ⟨?_, fun hn => ?_⟩
    · rw [sumD_cons]; have := h2.1; push_cast; omega
    · have := h2.2 fun y hy => hn y (List.mem_cons_of_mem _ hy)
      have h4 := hn x (by simp)
      have h5 : 0 < x.d.length := List.length_pos_iff.2 h4
      rw [List.length_cons]; push_cast; omega
theorem ok_held {s : Rq} (h : Ok s) : rHeld s ≤ 4096 ∧ s.p.length ≤ 4096 := by
  have hb := h.b
  by_cases hp : s.p = []
  · rw [hp]
    refine ⟨?_, by simp⟩
    have e : rHeld s = s.r.length + sumD s.p := rfl
    rw [e, hp]
    show s.r.length + 0 ≤ _
    omega
  · have hlim : s.b ≤ rLim s := by
      obtain ⟨x, l, e⟩ := List.exists_cons_of_ne_nil hp
      have h1 := h.p x (by rw [e]; simp)
      have h2 := h.srt
      rw [e] at h2
      have := h2.1
      have := pEnd_ge x
      omega
    have h1 := srt_sum h.srt (fun y hy => (h.p y hy).2) hlim
    have h2 := h1.2 fun y hy => (h.p y hy).1
    have h3 : rLim s ≤ s.b - s.r.length + 4096 := Int.min_le_left _ _
    have e : rHeld s = s.r.length + sumD s.p := rfl
    omega
theorem ok_rb2 {s : Rq} (h : Ok s) : Rb s := by
  have hb := h.b
  have hh := ok_held h
  have h3 : rLim s ≤ 1099511627776 := Int.min_le_right _ _
  refine ⟨by omega, by omega, by omega, fun y hy => ?_⟩
  have h1 := (h.p y hy).2
  have h4 : ∀ {l : List Pt} {e : Int}, Srt e l → y ∈ l → e < y.a := by
    intro l
    induction l with
    | nil => intro e _ hm; cases hm
    | cons x r ih =>
      intro e hs hm
      rcases List.mem_cons.1 hm with rfl | hm
      · exact hs.1
      · have := ih hs.2 hm
        have := hs.1
        have := pEnd_ge x
        omega
  have h5 := h4 h.srt hy
  have h6 : y.d.length ≤ sumD s.p := by
    have key : ∀ l : List Pt, y ∈ l → y.d.length ≤ sumD l := by
      intro l
      induction l with
      | nil => intro hm; cases hm
      | cons x r ih =>
        intro hm
        rw [sumD_cons]
        rcases List.mem_cons.1 hm with rfl | hm
        · omega
        · have := ih hm; omega
    exact key _ hy
  have e : rHeld s = s.r.length + sumD s.p := rfl
  unfold pEnd at h1
  refine ⟨by omega, by omega⟩
/-- What holds all along: what was read, and what is there, is of the text. -/
structure RI (w : List UInt8) (s : Rq) (out : List UInt8) : Prop where
  ok : Ok s
  ol : (out.length : Int) = rS s
  oe : out = w.take out.length
  dn : ∀ (k : Nat) (c : UInt8), den s k = some c → w[k]? = some c
section
variable {w w' : List UInt8} {s : Rq} {out : List UInt8}
theorem RI.bd (h : RI w s out) : 0 ≤ rS s ∧ rS s ≤ s.b ∧ s.b ≤ w.length := by
  have hb := h.ok.b
  have h0 : 0 ≤ rS s := by unfold rS; omega
  have h1 : rS s ≤ s.b := by unfold rS; omega
  refine ⟨h0, h1, ?_⟩
  by_cases h2 : s.b = rS s
  · have h3 := h.ol
    have h4 := congrArg List.length h.oe
    rw [List.length_take] at h4
    omega
  · obtain ⟨c, hc⟩ := den_r (s := s) (k := ((s.b - 1).toNat : Nat)) (by omega) (by omega)
    have := h.dn _ c hc
    have := (List.getElem?_eq_some_iff.1 this).1
    omega
theorem RI.grow (h : RI w s out) (x : List UInt8) : RI (w ++ x) s out := by
  have hl : out.length ≤ w.length := by
    have h4 := congrArg List.length h.oe
    rw [List.length_take] at h4
    omega
  refine ⟨h.ok, h.ol, ?_, fun k c hc => ?_⟩
  · rw [List.take_append_of_le_length hl]; exact h.oe
  · have := h.dn k c hc
    rw [List.getElem?_append_left (List.getElem?_eq_some_iff.1 this).1]; exact this
theorem RI.put (h : RI w s out) {a : Nat} (ha : (a : Int) ≤ 1099511627776) {d : List UInt8} (hd : d = (w.drop a).take d.length) : RI w (rPut s a d).1 out := by
  obtain ⟨i1, i2, i3, -⟩ := rPut_ok h.ok a (by omega) ha d
  refine ⟨i1, by rw [i2]; exact h.ol, h.oe, fun k c hc => ?_⟩
  rw [i3] at hc
  cases hq : den s k with
  | some e =>
    rw [hq] at hc
    exact h.dn k c (by rw [hq]; exact hc)
  | none =>
    rw [hq, Option.none_or] at hc
    split at hc
    · unfold bA at hc
      split at hc
      · next g =>
        have e1 : ((k : Int) - a).toNat = k - a := by omega
        have g : (a : Int) ≤ k := g
        rw [e1] at hc
        have hk : k - a < d.length := (List.getElem?_eq_some_iff.1 hc).1
        rw [hd, List.getElem?_take, if_pos hk, List.getElem?_drop] at hc
        rw [show k = a + (k - a) by omega]
        exact hc
      · cases hc
    · cases hc
theorem RI.r (h : RI w s out) (i : Nat) (hi : i < s.r.length) : s.r[i]? = w[out.length + i]? := by
  have hb := h.bd
  have ho := h.ol
  have hS : rS s = s.b - s.r.length := rfl
  obtain ⟨c, hc⟩ := den_r (s := s) (k := ((out.length + i : Nat) : Int)) (by omega) (by omega)
  rw [h.dn _ c hc]
  unfold den at hc
  have h3 : dP s.p ((out.length + i : Nat) : Int) = none := srt_dP h.ok.srt _ (by omega)
  rw [h3, Option.or_none] at hc
  unfold bA at hc
  rw [if_pos (by show rS s ≤ _; omega)] at hc
  rw [← hc]
  congr 1
  show i = (((out.length + i : Nat) : Int) - rS s).toNat
  omega
theorem RI.glue (h : RI w s out) (n : Nat) (hn : n ≤ s.r.length) : out ++ s.r.take n = w.take (out.length + n) := by
  refine List.ext_getElem? fun i => ?_
  rw [List.getElem?_take]
  by_cases h1 : i < out.length
  · rw [List.getElem?_append_left h1, if_pos (by omega)]
    have h2 := h.oe
    have h3 : (w.take out.length)[i]? = w[i]? := by rw [List.getElem?_take, if_pos h1]
    rw [← h3, ← h2]
  · rw [List.getElem?_append_right (by omega), List.getElem?_take]
    by_cases h2 : i < out.length + n
    · rw [if_pos (by omega), if_pos h2, h.r _ (by omega)]
      congr 1; omega
    · rw [if_neg (by omega), if_neg h2]
theorem RI.read (h : RI w s out) (m : Int) : RI w (rRead s m).1 (out ++ (rRead s m).2) := by
  unfold rRead
  by_cases hm : rChk s ≠ 0 ∨ m < 1
  · rw [if_pos hm]
    simp only [List.append_nil]
    exact h
  · rw [if_neg hm]
    have hb := h.ok.b
    have hB := h.bd
    have hS : rS s = s.b - s.r.length := rfl
    have ho := h.ol
    obtain ⟨m', hm'⟩ : ∃ m', m' = min m.toNat s.r.length := ⟨_, rfl⟩
    have ed : s.r.drop m.toNat = s.r.drop m' := by
      by_cases g : m.toNat ≤ s.r.length
      · rw [show m' = m.toNat by omega]
      · rw [List.drop_eq_nil_of_le (by omega), List.drop_eq_nil_of_le (by omega)]
    have et : s.r.take m.toNat = s.r.take m' := by
      by_cases g : m.toNat ≤ s.r.length
      · rw [show m' = m.toNat by omega]
      · rw [List.take_of_length_le (by omega), List.take_of_length_le (by omega)]
    rw [ed, et]
    simp only
    have eS : rS ⟨s.b, s.r.drop m', s.p⟩ = rS s + m' := by unfold rS; simp only [List.length_drop]; omega
    have hlen : (out ++ s.r.take m').length = out.length + m' := by rw [List.length_append, List.length_take]; omega
    have eL : rLim s ≤ rLim ⟨s.b, s.r.drop m', s.p⟩ := by
      unfold rLim; simp only [List.length_drop]; omega
    refine ⟨⟨by simp only [List.length_drop]; omega, h.ok.srt, fun y hy => ?_⟩, by rw [eS, hlen]; push_cast; omega, by rw [hlen]; exact h.glue m' (by omega), fun k c hc => ?_⟩
    · have := h.ok.p y hy
      exact ⟨this.1, Int.le_trans this.2 eL⟩
    · refine h.dn k c ?_
      rw [← hc]
      unfold den at hc ⊢
      rw [eS, bA_drop] at hc ⊢
      split at hc
      · next g => rw [if_pos g]
      · next g =>
        rw [if_neg g]
        rw [Option.none_or] at hc ⊢
        exfalso
        obtain ⟨y, hy, h1, h2⟩ := dP_in hc
        have := srt_dP h.ok.srt k (by omega)
        rw [this] at hc; cases hc
theorem RI.zero : RI [] ⟨0, [], []⟩ [] := by
  refine ⟨⟨by decide, trivial, fun y hy => by cases hy⟩, rfl, rfl, fun k c hc => ?_⟩
  have : den ⟨0, [], []⟩ (k : Int) = (bA ⟨0, []⟩ k).or none := rfl
  rw [this, Option.or_none] at hc
  unfold bA at hc
  simp at hc
end
end Go.Proofs.YtalpfhpeaaocmaaGreat.C12
end
section
set_option linter.unusedSimpArgs false
set_option linter.unusedVariables false
namespace Go.Proofs.YtalpfhpeaaocmaaGreat
open Sx Go.RowKit
theorem plc_num {f near a : Int} (f0 : 0 ≤ f) (f1 : f < 4294967296) (n0 : 0 ≤ near) (n1 : near ≤ 1000000) (a0 : 0 ≤ a) (a1 : a ≤ 1000000) : pPlc f near (pNum f a) = a := by
  have w1 : IntKind.i64.wrap (a + 1) = a + 1 := by rw [IntKind.wrap_i64]; omega
  have e1 : IntKind.u32.wrap (C13.aAdd (pNum f a) (-1) - f) = a := by
    rw [IntKind.wrap_u32]; unfold pNum C13.aAdd; rw [w1]; omega
  unfold pPlc
  rw [e1]
  have e2 : C04.sNear near = near := by unfold C04.sNear; omega
  have e3 : C04.sDiff a (C04.sShort near) = a - near := by unfold C04.sDiff C04.sShort; omega
  unfold C04.sLong
  simp only [e2, e3]
  split
  · omega
  · split <;> omega
theorem num_bd (f a : Int) : 0 ≤ pNum f a ∧ pNum f a < 4294967296 := by unfold pNum C13.aAdd; omega
/-- Stage, numbers. -/
structure ShI (s : C13.Nd) (m o : Int) : Prop where
  g : 0 ≤ s.g ∧ s.g ≤ 4
  p : s.p = 2
  e : s.e = 9
  m : s.m = m
  h0 : s.g < 2 → s.h = 0
  h : s.g = 2 ∨ s.g = 3 → s.h = o
  hb : 0 ≤ s.h ∧ s.h < 4294967296
structure EndI (s : Pp) (m o : Int) (w : List UInt8) : Prop where
  sh : ShI s.sh m o
  mb : 0 ≤ m ∧ m < 4294967296
  sq : C11.KI s.sq w
  wl : w.length ≤ 100000
  rt : C08.rCheck s.rt = 0
  wn : C10.aOk s.wn
  li : 0 ≤ s.li ∧ s.li ≤ 200000
  no : 0 ≤ s.no ∧ s.no ≤ 1000
structure SegI (m : Int) (w : List UInt8) (x : C13.Sg) : Prop where
  f : x.f = 1 ∨ x.f = 3 ∨ x.f = 2 ∨ x.f = 18
  k : ∃ bs : List (Int × Int), x.k = bs.map bkD ∧ bs.length ≤ 3
  wd : 0 ≤ x.w ∧ x.w ≤ 65535
  syn : x.f = 1 ∨ x.f = 3 → x.q = m ∧ x.t = []
  dat : x.f = 2 ∨ x.f = 18 → ∃ a : Nat, x.q = pNum m a ∧ a + x.t.length ≤ w.length ∧ x.t = (w.drop a).take x.t.length
  qb : 0 ≤ x.q ∧ x.q < 4294967296
theorem SegI.grow {m : Int} {w : List UInt8} {x : C13.Sg} (h : SegI m w x) (y : List UInt8) : SegI m (w ++ y) x := by
  refine ⟨h.f, h.k, h.wd, h.syn, fun g => ?_, h.qb⟩
  obtain ⟨a, h1, h2, h3⟩ := h.dat g
  refine ⟨a, h1, by rw [List.length_append]; omega, ?_⟩
  rw [List.drop_append_of_le_length (by omega), List.take_append_of_le_length (by rw [List.length_drop]; omega)]
  exact h3
theorem has_1 {f : Int} (h : f = 1 ∨ f = 3 ∨ f = 2 ∨ f = 18) : C13.hasB f 1 = true ↔ f = 1 ∨ f = 3 := by
  rcases h with rfl | rfl | rfl | rfl <;> decide +kernel
theorem has_8 {f : Int} (h : f = 1 ∨ f = 3 ∨ f = 2 ∨ f = 18) : C13.hasB f 8 = false := by
  rcases h with rfl | rfl | rfl | rfl <;> decide +kernel
section
variable {s : Pp} {m o : Int} {w w' r : List UInt8} {x : C13.Sg}
theorem ShI.chk {s : C13.Nd} (h : ShI s m o) : C13.nChk s = 0 := by
  have h1 := h.g
  have h2 := h.p
  have h3 := h.e
  unfold C13.nChk
  rw [if_neg (by omega), if_neg (by omega), if_neg (fun g => g.2 (h.h0 g.1))]
theorem ShI.at {s : C13.Nd} (h : ShI s m o) {g : Int} (hg : 0 ≤ g ∧ g ≤ 4) (h2 : g < 2 → s.h = 0) (h3 : g = 2 ∨ g = 3 → s.h = o) : ShI (C13.nAt s g) m o := by
  rw [C13.nAt_yes h.chk]
  exact ⟨hg, h.p, h.e, h.m, h2, h3, h.hb⟩
theorem ShI.met {s : C13.Nd} (h : ShI s m o) {g q : Int} (hg : 0 ≤ g ∧ g ≤ 4) (h2 : 2 ≤ g) (h3 : q = o) (h4 : 0 ≤ q ∧ q < 4294967296) : ShI (C13.nMet s g q) m o :=
  ⟨hg, h.p, h.e, h.m, fun k => by have k : g < 2 := k; omega, fun _ => h3, h4⟩
theorem ShI.on {s : C13.Nd} (h : ShI s m o) (hx : SegI o w x) : ShI (C13.nOn s x) m o := by
  have h8 := has_8 hx.f
  have h1 := has_1 hx.f
  have hq := fun g : C13.hasB x.f 1 = true => (hx.syn (h1.1 g)).1
  unfold C13.nOn
  split
  · exact h
  · split
    · exact h
    · next a1 =>
      rw [h8]
      simp only [Bool.false_eq_true, if_false]
      split
      · split
        · next g => exact h.met (by omega) (by omega) (hq g.1) hx.qb
        · split
          · next g => exact h.met (by omega) (by omega) (hq g.1) hx.qb
          · exact h
      · split
        · next a2 a3 =>
          split
          · refine h.met (by omega) (by omega) (hq ?_) hx.qb
            cases g : C13.hasB x.f 1
            · exact absurd ⟨a3, g⟩ a1
            · rfl
          · exact h
        · split
          · next a4 =>
            split
            · exact h.at (by omega) (fun g => by omega) (fun _ => h.h (.inl a4))
            · exact h
          · exact h
theorem endI_write (h : EndI s m o w) {t : List UInt8} (ht : w.length + t.length ≤ 100000) : EndI (pWrite s t).1 m o (w ++ t.take (max 0 (min (pWrite s t).2 t.length)).toNat) ∧ (pWrite s t).1.rq = s.rq := by
  unfold pWrite
  split
  · have e : (max 0 (min (0 : Int) (t.length : Int))).toNat = 0 := by omega
    rw [e, List.take_zero, List.append_nil]
    exact ⟨h, rfl⟩
  · obtain ⟨k, h1, h2, -, h3, -, -⟩ := C11.ki_write h.sq (x := t) (by omega)
    simp only [h1]
    have e : (max 0 (min (k : Int) (t.length : Int))).toNat = k := by omega
    rw [e]
    exact ⟨⟨h.sh, h.mb, h3, by rw [List.length_append, List.length_take]; omega, h.rt, h.wn, h.li, h.no⟩, trivial⟩
theorem endI_read (h : EndI s m o w) (hr : C12.RI w' s.rq r) (n : Int) : EndI (pRead s n).1 m o w ∧ C12.RI w' (pRead s n).1.rq (r ++ (pRead s n).2) :=
  ⟨⟨h.sh, h.mb, h.sq, h.wl, h.rt, h.wn, h.li, h.no⟩, hr.read n⟩
theorem aOk_half {a : C10.Aim} (h : C10.aOk a) : C10.aOk (C10.aHalf a) := by
  unfold C10.aOk C10.aHalf at *; dsimp only; omega
theorem aOk_lost {a : C10.Aim} (h : C10.aOk a) : C10.aOk (C10.aLost a) := by
  unfold C10.aLost; split
  · exact aOk_half h
  · exact h
theorem aOk_expired {a : C10.Aim} (h : C10.aOk a) : C10.aOk (C10.aExpired a) := by
  unfold C10.aExpired; split
  · unfold C10.aOk at *; dsimp only; omega
  · exact h
theorem aOk_acked {a : C10.Aim} (h : C10.aOk a) (n : Int) : C10.aOk (C10.aAcked a n) := by
  unfold C10.aAcked C10.aGrow; unfold C10.aOk at h
  split
  · split
    · unfold C10.aOk; dsimp only; omega
    · split <;> (unfold C10.aOk; dsimp only; omega)
  · exact h
theorem endI_kill (h : EndI s m o w) : EndI (pKill s) m o w :=
  ⟨h.sh.at (by omega) (fun g => by omega) (fun g => by omega), h.mb, h.sq, h.wl, h.rt, h.wn, h.li, h.no⟩
theorem endI_tick (h : EndI s m o w) {now : Int} (hn : now ≤ 1000) : EndI (pTick s now) m o w ∧ (pTick s now).rq = s.rq := by
  unfold pTick
  have hno := h.no
  split
  · exact ⟨h, rfl⟩
  · next h1 =>
    have h2 : EndI { s with no := now } m o w := ⟨h.sh, h.mb, h.sq, h.wl, h.rt, h.wn, h.li, by show 0 ≤ now ∧ now ≤ 1000; omega⟩
    split
    · exact ⟨h2, rfl⟩
    · split
      · exact ⟨endI_kill h2, rfl⟩
      · split
        · exact ⟨⟨h.sh, h.mb, C11.ki_expire h.sq, h.wl, C08.expire_ok h.rt, aOk_expired h.wn, h.li, by show 0 ≤ now ∧ now ≤ 1000; omega⟩, rfl⟩
        · exact ⟨h2, rfl⟩
theorem free_eq {s : Pp} (h : C12.Ok s.rq) : pFree s = C12.rLim s.rq - s.rq.b ∧ -4096 ≤ pFree s ∧ pFree s ≤ 4096 := by
  have hb := h.b
  have e : pFree s = C12.rLim s.rq - s.rq.b := by
    unfold pFree; rw [IntKind.wrap_i64]; unfold C12.rLim; omega
  refine ⟨e, ?_⟩
  rw [e]; unfold C12.rLim; omega
theorem free_bd {s : Pp} (h : C12.Ok s.rq) : 0 ≤ min (pFree s) 65535 ∧ min (pFree s) 65535 ≤ 65535 := by
  have hb := h.b
  obtain ⟨e, -, -⟩ := free_eq h
  rw [e]
  unfold C12.rLim
  omega
theorem rBlk_len' (q : C12.Rq) : (C12.rBlk q 3).length ≤ 3 := by
  unfold C12.rBlk
  split
  · rw [List.length_take]; omega
  · simp
theorem segI_bear (h : EndI s m o w) (hr : C12.Ok s.rq) {a : Nat} {t : List UInt8} (ha : a + t.length ≤ w.length) (ht : t = (w.drop a).take t.length) {f : Int} (hf : f = 2 ∨ f = 18) : SegI m w { pBear s a t with f := f } := by
  refine ⟨by show f = 1 ∨ f = 3 ∨ f = 2 ∨ f = 18; omega, ⟨pBks s, rfl, ?_⟩, free_bd (s := s) hr, fun g => ?_, fun _ => ⟨a, ?_, ha, ht⟩, num_bd _ _⟩
  · unfold pBks; rw [List.length_map]; exact rBlk_len' _
  · have g : f = 1 ∨ f = 3 := g
    omega
  · show pNum s.sh.m a = pNum m a
    rw [h.sh.m]
theorem endI_out (h : EndI s m o w) (hr : C12.Ok s.rq) : EndI (pOut s).1 m o w ∧ (pOut s).1.rq = s.rq ∧ ((pOut s).2.2 = true → SegI m w (pOut s).2.1) := by
  have hno := h.no
  unfold pOut
  split
  · unfold pSpeak
    obtain ⟨k1, k2, k3, k4⟩ := C11.ki_pick (win := s.wn.w) (limit := s.li) h.sq (now := s.no) (by omega)
    split
    · refine ⟨⟨h.sh, h.mb, k1, h.wl, h.rt, h.wn, h.li, h.no⟩, rfl, fun _ => ?_⟩
      have p1 := k4.f
      have p2 := k4.ft
      have p3 := k4.ta
      have p4 := k4.eq
      have hl : (pPick s).2.2.length = (pPick s).2.1.t.toNat - (pPick s).2.1.f.toNat := by
        have := congrArg List.length p4
        rw [List.length_take, List.length_drop] at this
        unfold pPick
        omega
      have e : ((pPick s).2.1.f.toNat : Int) = (pPick s).2.1.f := by unfold pPick; omega
      have := segI_bear (a := (pPick s).2.1.f.toNat) (t := (pPick s).2.2) (f := 2) h hr (by unfold pPick at *; omega) (by rw [hl]; exact p4) (.inl rfl)
      rw [e] at this
      exact this
    · split
      · exact ⟨h, rfl, fun g => by cases g⟩
      · have h1 := h.sq.b0
        have h2 := h.sq.bn
        have h3 := h.sq.nd
        have e : ((s.sq.n.toNat : Nat) : Int) = s.sq.n := by omega
        have seg := fun f hf => segI_bear (a := s.sq.n.toNat) (t := []) (f := f) h hr (by simp; omega) (by simp) hf
        rw [e] at seg
        split
        · exact ⟨⟨h.sh, h.mb, h.sq, h.wl, h.rt, h.wn, h.li, h.no⟩, rfl, fun _ => seg 2 (.inl rfl)⟩
        · exact ⟨⟨h.sh, h.mb, h.sq, h.wl, h.rt, h.wn, h.li, h.no⟩, rfl, fun _ => seg 18 (.inr rfl)⟩
  · unfold pGreet
    split
    · exact ⟨h, rfl, fun g => by cases g⟩
    · next hs =>
      refine ⟨⟨h.sh, h.mb, h.sq, h.wl, C08.expire_ok h.rt, h.wn, h.li, h.no⟩, rfl, fun _ => ?_⟩
      have hc := h.sh.chk
      have hm := h.sh.m
      have hmb := h.mb
      have hsy : C13.nSays s.sh = true := by
        cases g : C13.nSays s.sh
        · exact absurd (.inl g) hs
        · rfl
      have hsy := (of_decide_eq_true hsy).2
      show SegI m w (C13.nOut s.sh)
      unfold C13.nOut
      rw [hc]
      rcases hsy with g | g
      · rw [if_pos ⟨rfl, g⟩]
        exact ⟨.inl rfl, ⟨[], rfl, by simp⟩, (by show 0 ≤ (65535 : Int) ∧ (65535 : Int) ≤ 65535; decide), fun _ => ⟨hm, rfl⟩, fun k => (by have k : (1 : Int) = 2 ∨ (1 : Int) = 18 := k; omega), by show 0 ≤ s.sh.m ∧ s.sh.m < _; omega⟩
      · rw [if_neg (by omega), if_pos ⟨rfl, g⟩]
        exact ⟨.inr (.inl rfl), ⟨[], rfl, by simp⟩, (by show 0 ≤ (65535 : Int) ∧ (65535 : Int) ≤ 65535; decide), fun _ => ⟨hm, rfl⟩, fun k => (by have k : (3 : Int) = 2 ∨ (3 : Int) = 18 := k; omega), by show 0 ≤ s.sh.m ∧ s.sh.m < _; omega⟩
theorem endI_acked (h : EndI s m o w) (hx : SegI o w' x) : EndI (pAcked s x) m o w := by
  have k1 := (C11.ki_ack h.sq (pCum s x) (pBlocks s (x.k.map bkOf) (pCum s x)) s.no).1
  have h1 := h.sq.b0
  have h2 := h.sq.nd
  have h3 := h.wl
  have h4 := h.li
  have h5 := hx.wd
  refine ⟨h.sh, h.mb, k1, h.wl, ?_, ?_, ?_, h.no⟩
  · show C08.rCheck (if (pAck s x).2.s ≥ 0 then C08.rSample s.rt (pAck s x).2.s else s.rt) = 0
    split
    · exact C08.sample_ok h.rt
    · exact h.rt
  · have : C10.aOk (if (pAck s x).2.a > 0 then C10.aAcked s.wn (pAck s x).2.a else s.wn) := by
      split
      · exact aOk_acked h.wn _
      · exact h.wn
    show C10.aOk ((fun w => if (pAck s x).2.l = true then C10.aLost w else w) (if (pAck s x).2.a > 0 then C10.aAcked s.wn (pAck s x).2.a else s.wn))
    dsimp only
    split
    · exact aOk_lost this
    · exact this
  · show 0 ≤ (if s.sq.b ≤ pCum s x ∧ pCum s x ≤ s.sq.n then max s.li (IntKind.i64.wrap (pCum s x + x.w)) else s.li) ∧ (if s.sq.b ≤ pCum s x ∧ pCum s x ≤ s.sq.n then max s.li (IntKind.i64.wrap (pCum s x + x.w)) else s.li) ≤ 200000
    split
    · next g =>
      have e : IntKind.i64.wrap (pCum s x + x.w) = pCum s x + x.w := by rw [IntKind.wrap_i64]; omega
      rw [e]; omega
    · exact h4
theorem endI_took (h : EndI s m o w) (ob : 0 ≤ o ∧ o < 4294967296) (hu : s.sh.g = 3) (hx : SegI o w' x) (hr : C12.RI w' s.rq r) (hw : w'.length ≤ 100000) : EndI (pTook s x) m o w ∧ C12.RI w' (pTook s x).rq r := by
  have key : ∀ s1 : Pp, EndI s1 m o w → s1.sh = s.sh → s1.rq = s.rq → ∀ d : Bool, EndI (TK s1 (if x.t ≠ [] then (C12.rPut s1.rq (pPlc s1.sh.h s1.rq.b x.q) x.t).1 else s1.rq) d) m o w ∧ C12.RI w' (if x.t ≠ [] then (C12.rPut s1.rq (pPlc s1.sh.h s1.rq.b x.q) x.t).1 else s1.rq) r := fun s1 h1 hs hq d => by
    refine ⟨⟨h1.sh, h1.mb, h1.sq, h1.wl, h1.rt, h1.wn, h1.li, h1.no⟩, ?_⟩
    split
    · next ht =>
      have hf : x.f = 2 ∨ x.f = 18 := by
        rcases hx.f with g | g | g | g
        · exact absurd (hx.syn (.inl g)).2 ht
        · exact absurd (hx.syn (.inr g)).2 ht
        · exact .inl g
        · exact .inr g
      obtain ⟨a, g1, g2, g3⟩ := hx.dat hf
      have hb := hr.bd
      rw [hs, hq, h.sh.h (.inr hu), g1, plc_num ob.1 ob.2 (by omega) (by omega) (by omega) (by omega)]
      exact hr.put (by omega) g3
    · rw [hq]; exact hr
  rw [pTook_eq]
  have hA : EndI (pA s x) m o w ∧ (pA s x).sh = s.sh ∧ (pA s x).rq = s.rq := by
    unfold pA
    split
    · exact ⟨endI_acked h hx, rfl, rfl⟩
    · exact ⟨h, rfl, rfl⟩
  exact key _ hA.1 hA.2.1 hA.2.2 _
theorem endI_on (h : EndI s m o w) (ob : 0 ≤ o ∧ o < 4294967296) (hx : SegI o w' x) (hr : C12.RI w' s.rq r) (hw : w'.length ≤ 100000) : EndI (pOn s x) m o w ∧ C12.RI w' (pOn s x).rq r := by
  have h1 : EndI { s with he := s.no, sh := C13.nOn s.sh x } m o w := ⟨h.sh.on hx, h.mb, h.sq, h.wl, h.rt, h.wn, h.li, h.no⟩
  unfold pOn
  split
  · exact ⟨h, hr⟩
  · split
    · next hu => exact endI_took h1 ob (beq_iff_eq.1 hu) hx hr hw
    · exact ⟨h1, hr⟩
end
end Go.Proofs.YtalpfhpeaaocmaaGreat
end
