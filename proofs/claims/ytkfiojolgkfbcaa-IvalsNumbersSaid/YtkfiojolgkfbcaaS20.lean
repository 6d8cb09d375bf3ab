/-
laws 06: the numbers: the law. No condition beyond the statement's own.
-/
import Derived.Test.YtkfiojolgkfbcaaS19
set_option linter.unusedSimpArgs false
set_option linter.unusedVariables false
namespace Go.Proofs.Ytkfiojolgkfbcaa
open Sx Go.RowKit

set_option maxRecDepth 100000 in
set_option maxHeartbeats 1000000 in
theorem num5n (l : List At) (h : l.length > 40) : FnOK Try.prog 5 ([.d (.sl (l.map atD))]) ([]) (.d (.bool true)) ([]) := by
  refine fnOK_wp (p := (D.bool (decide ((↑(List.map atD l).length : Int) > (40 : Int))) = D.bool true) ∧ ((FnOK Try.prog (7 : Nat) [] [] (AV.d (D.bool true)) []) ∧ ((AV.d (D.bool true) = AV.d (D.bool true)) ∧ (True)))) (h := {H := [(1, [(2, .val (.bool true))])], G := [(7, gYes)]}) (subs := []) (ws := []) (ρ := []) (by kernel_rfl) ?_
  simp only [List.length_map]
  repeat' (first | with_reducible exact True.intro | with_reducible refine And.intro ?_ ?_ | with_reducible refine condP_dec (fun _ => ?_) (fun _ => ?_) | with_reducible refine condP_eq (fun _ => ?_) (fun _ => ?_) | with_reducible refine condP_ne (fun _ => ?_) (fun _ => ?_) | with_reducible refine condP_not (condP_dec (fun _ => ?_) (fun _ => ?_)) | with_reducible refine condP_not (condP_eq (fun _ => ?_) (fun _ => ?_)) | with_reducible refine condP_not (condP_intro (fun _ => ?_) (fun _ => ?_)) | with_reducible refine condP_intro (fun _ => ?_) (fun _ => ?_))
  all_goals first | exact aw7 | rfl | exact dyes (by omega) | skip

set_option maxRecDepth 100000 in
set_option maxHeartbeats 1000000 in
theorem num5 (l : List At) (h : l.length ≤ 40) (cm0 cm : List Bool) (hC0 : bD cm0 = List.replicate 512 (.bool false)) (s g : List Iv) (c f : Int) (h1 : Loops Try.prog 0 (loopN Try.prog 5 0) ((I5 l cm0 [] 0).as 130) (.exit 0) ((I5 l cm s l.length).as 130)) (h2 : Loops Try.prog 0 (loopN Try.prog 5 2) ((L5 cm s g 0 (-1) 0).as 130) (.exit 4) ((L5 cm s g c f 512).as 130)) (k1 : FnOK Try.prog 15 [.d (.sl (s.map ivD)), .d (ivD (0, 512))] [] (.d (.sl (g.map ivD))) []) (k2 : FnOK Try.prog 19 [.d (.sl (s.map ivD))] [] (.d (.int .i64 0)) []) (k3 : FnOK Try.prog 19 [.d (.sl (g.map ivD))] [] (.d (.int .i64 0)) []) (k4 : FnOK Try.prog 21 [.d (.sl (s.map ivD))] [] (.d (.int .i64 c)) []) (k5 : FnOK Try.prog 28 [.d (.sl (s.map ivD)), .d (.int .i64 0)] [] (.d (.int .i64 f)) []) (k6 : FnOK Try.prog 17 [.d (.sl (s.map ivD)), .d (.sl (g.map ivD))] [] (.d (.sl [])) []) : FnOK Try.prog 5 ([.d (.sl (l.map atD))]) ([]) (.d (.bool true)) ([]) := by
  refine fnOK_wp (p := (D.bool (decide ((↑(List.map atD l).length : Int) > (40 : Int))) = D.bool false) ∧ ((AV.d (D.sl (List.map atD l)) = AV.d (D.sl (List.map atD l))) ∧ ((AV.d (D.sl []) = AV.d (D.sl [])) ∧ ((AV.rptr (1032 : Nat) (1 : Nat) (0 : Nat) (0 : Nat) = AV.rptr (1032 : Nat) (1 : Nat) (0 : Nat) (0 : Nat)) ∧ ((AV.d (D.int IntKind.i64 (0 : Int)) = AV.d (D.int IntKind.i64 (0 : Int))) ∧ ((Ob.row (1 : Nat) [D.bool false, D.bool false, D.bool false, D.bool false, D.bool false, D.bool false, D.bool false, D.bool false, D.bool false, D.bool false, D.bool false, D.bool false, D.bool false, D.bool false, D.bool false, D.bool false, D.bool false, D.bool false, D.bool false, D.bool false, D.bool false, D.bool false, D.bool false, D.bool false, D.bool false, D.bool false, D.bool false, D.bool false, D.bool false, D.bool false, D.bool false, D.bool false, D.bool false, D.bool false, D.bool false, D.bool false, D.bool false, D.bool false, D.bool false, D.bool false, D.bool false, D.bool false, D.bool false, D.bool false, D.bool false, D.bool false, D.bool false, D.bool false, D.bool false, D.bool false, D.bool false, D.bool false, D.bool false, D.bool false, D.bool false, D.bool false, D.bool false, D.bool false, D.bool false, D.bool false, D.bool false, D.bool false, D.bool false, D.bool false, D.bool false, D.bool false, D.bool false, D.bool false, D.bool false, D.bool false, D.bool false, D.bool false, D.bool false, D.bool false, D.bool false, D.bool false, D.bool false, D.bool false, D.bool false, D.bool false, D.bool false, D.bool false, D.bool false, D.bool false, D.bool false, D.bool false, D.bool false, D.bool false, D.bool false, D.bool false, D.bool false, D.bool false, D.bool false, D.bool false, D.bool false, D.bool false, D.bool false, D.bool false, D.bool false, D.bool false, D.bool false, D.bool false, D.bool false, D.bool false, D.bool false, D.bool false, D.bool false, D.bool false, D.bool false, D.bool false, D.bool false, D.bool false, D.bool false, D.bool false, D.bool false, D.bool false, D.bool false, D.bool false, D.bool false, D.bool false, D.bool false, D.bool false, D.bool false, D.bool false, D.bool false, D.bool false, D.bool false, D.bool false, D.bool false, D.bool false, D.bool false, D.bool false, D.bool false, D.bool false, D.bool false, D.bool false, D.bool false, D.bool false, D.bool false, D.bool false, D.bool false, D.bool false, D.bool false, D.bool false, D.bool false, D.bool false, D.bool false, D.bool false, D.bool false, D.bool false, D.bool false, D.bool false, D.bool false, D.bool false, D.bool false, D.bool false, D.bool false, D.bool false, D.bool false, D.bool false, D.bool false, D.bool false, D.bool false, D.bool false, D.bool false, D.bool false, D.bool false, D.bool false, D.bool false, D.bool false, D.bool false, D.bool false, D.bool false, D.bool false, D.bool false, D.bool false, D.bool false, D.bool false, D.bool false, D.bool false, D.bool false, D.bool false, D.bool false, D.bool false, D.bool false, D.bool false, D.bool false, D.bool false, D.bool false, D.bool false, D.bool false, D.bool false, D.bool false, D.bool false, D.bool false, D.bool false, D.bool false, D.bool false, D.bool false, D.bool false, D.bool false, D.bool false, D.bool false, D.bool false, D.bool false, D.bool false, D.bool false, D.bool false, D.bool false, D.bool false, D.bool false, D.bool false, D.bool false, D.bool false, D.bool false, D.bool false, D.bool false, D.bool false, D.bool false, D.bool false, D.bool false, D.bool false, D.bool false, D.bool false, D.bool false, D.bool false, D.bool false, D.bool false, D.bool false, D.bool false, D.bool false, D.bool false, D.bool false, D.bool false, D.bool false, D.bool false, D.bool false, D.bool false, D.bool false, D.bool false, D.bool false, D.bool false, D.bool false, D.bool false, D.bool false, D.bool false, D.bool false, D.bool false, D.bool false, D.bool false, D.bool false, D.bool false, D.bool false, D.bool false, D.bool false, D.bool false, D.bool false, D.bool false, D.bool false, D.bool false, D.bool false, D.bool false, D.bool false, D.bool false, D.bool false, D.bool false, D.bool false, D.bool false, D.bool false, D.bool false, D.bool false, D.bool false, D.bool false, D.bool false, D.bool false, D.bool false, D.bool false, D.bool false, D.bool false, D.bool false, D.bool false, D.bool false, D.bool false, D.bool false, D.bool false, D.bool false, D.bool false, D.bool false, D.bool false, D.bool false, D.bool false, D.bool false, D.bool false, D.bool false, D.bool false, D.bool false, D.bool false, D.bool false, D.bool false, D.bool false, D.bool false, D.bool false, D.bool false, D.bool false, D.bool false, D.bool false, D.bool false, D.bool false, D.bool false, D.bool false, D.bool false, D.bool false, D.bool false, D.bool false, D.bool false, D.bool false, D.bool false, D.bool false, D.bool false, D.bool false, D.bool false, D.bool false, D.bool false, D.bool false, D.bool false, D.bool false, D.bool false, D.bool false, D.bool false, D.bool false, D.bool false, D.bool false, D.bool false, D.bool false, D.bool false, D.bool false, D.bool false, D.bool false, D.bool false, D.bool false, D.bool false, D.bool false, D.bool false, D.bool false, D.bool false, D.bool false, D.bool false, D.bool false, D.bool false, D.bool false, D.bool false, D.bool false, D.bool false, D.bool false, D.bool false, D.bool false, D.bool false, D.bool false, D.bool false, D.bool false, D.bool false, D.bool false, D.bool false, D.bool false, D.bool false, D.bool false, D.bool false, D.bool false, D.bool false, D.bool false, D.bool false, D.bool false, D.bool false, D.bool false, D.bool false, D.bool false, D.bool false, D.bool false, D.bool false, D.bool false, D.bool false, D.bool false, D.bool false, D.bool false, D.bool false, D.bool false, D.bool false, D.bool false, D.bool false, D.bool false, D.bool false, D.bool false, D.bool false, D.bool false, D.bool false, D.bool false, D.bool false, D.bool false, D.bool false, D.bool false, D.bool false, D.bool false, D.bool false, D.bool false, D.bool false, D.bool false, D.bool false, D.bool false, D.bool false, D.bool false, D.bool false, D.bool false, D.bool false, D.bool false, D.bool false, D.bool false, D.bool false, D.bool false, D.bool false, D.bool false, D.bool false, D.bool false, D.bool false, D.bool false, D.bool false, D.bool false, D.bool false, D.bool false, D.bool false, D.bool false, D.bool false, D.bool false, D.bool false, D.bool false, D.bool false, D.bool false, D.bool false, D.bool false, D.bool false, D.bool false, D.bool false, D.bool false, D.bool false, D.bool false, D.bool false, D.bool false, D.bool false, D.bool false, D.bool false, D.bool false, D.bool false, D.bool false, D.bool false, D.bool false, D.bool false, D.bool false, D.bool false, D.bool false, D.bool false, D.bool false, D.bool false, D.bool false, D.bool false, D.bool false, D.bool false, D.bool false, D.bool false, D.bool false, D.bool false, D.bool false, D.bool false, D.bool false, D.bool false, D.bool false, D.bool false, D.bool false, D.bool false, D.bool false, D.bool false, D.bool false, D.bool false, D.bool false, D.bool false, D.bool false, D.bool false, D.bool false, D.bool false, D.bool false, D.bool false, D.bool false, D.bool false, D.bool false, D.bool false, D.bool false, D.bool false, D.bool false, D.bool false, D.bool false, D.bool false, D.bool false, D.bool false, D.bool false, D.bool false, D.bool false, D.bool false, D.bool false, D.bool false, D.bool false, D.bool false, D.bool false, D.bool false, D.bool false] = Ob.row (1 : Nat) (bD cm0)) ∧ ((LoopsS Try.prog (0 : Nat) (loopN Try.prog (5 : Nat) (0 : Nat)) (I5 l cm0 [] (0 : Nat)) (Exit.exit (0 : Nat)) (I5 l cm s l.length) (130 : Nat)) ∧ ((FnOK Try.prog (15 : Nat) [AV.d (D.sl (List.map ivD s)), AV.d (D.agg [D.int IntKind.i64 (0 : Int), D.int IntKind.i64 (512 : Int)])] [] (AV.d (D.sl (List.map ivD g))) []) ∧ ((AV.d (D.sl (List.map ivD s)) = AV.d (D.sl (List.map ivD s))) ∧ ((AV.rptr (0 : Nat) (1 : Nat) (0 : Nat) (0 : Nat) = AV.rptr (0 : Nat) (1 : Nat) (0 : Nat) (0 : Nat)) ∧ ((AV.d (D.sl (List.map ivD g)) = AV.d (D.sl (List.map ivD g))) ∧ ((AV.d (D.int IntKind.i64 (0 : Int)) = AV.d (D.int IntKind.i64 (0 : Int))) ∧ ((AV.d (D.int IntKind.i64 (-1 : Int)) = AV.d (D.int IntKind.i64 (-1 : Int))) ∧ ((AV.d (D.int IntKind.i64 (0 : Int)) = AV.d (D.int IntKind.i64 (0 : Int))) ∧ ((Ob.row (1 : Nat) (bD cm) = Ob.row (1 : Nat) (bD cm)) ∧ ((LoopsS Try.prog (0 : Nat) (loopN Try.prog (5 : Nat) (2 : Nat)) (L5 cm s g (0 : Int) (-1 : Int) (0 : Nat)) (Exit.exit (4 : Nat)) (L5 cm s g c f (512 : Nat)) (130 : Nat)) ∧ ((FnOK Try.prog (19 : Nat) [AV.d (D.sl (List.map ivD s))] [] (AV.d (D.int IntKind.i64 (0 : Int))) []) ∧ ((D.bool true = D.bool true) ∧ ((FnOK Try.prog (19 : Nat) [AV.d (D.sl (List.map ivD g))] [] (AV.d (D.int IntKind.i64 (0 : Int))) []) ∧ ((D.bool true = D.bool true) ∧ ((FnOK Try.prog (21 : Nat) [AV.d (D.sl (List.map ivD s))] [] (AV.d (D.int IntKind.i64 c)) []) ∧ ((D.bool (c == c) = D.bool true) ∧ ((FnOK Try.prog (28 : Nat) [AV.d (D.sl (List.map ivD s)), AV.d (D.int IntKind.i64 (0 : Int))] [] (AV.d (D.int IntKind.i64 f)) []) ∧ ((D.bool (f == f) = D.bool true) ∧ ((FnOK Try.prog (17 : Nat) [AV.d (D.sl (List.map ivD s)), AV.d (D.sl (List.map ivD g))] [] (AV.d (D.sl [])) []) ∧ ((D.bool true = D.bool true) ∧ ((FnOK Try.prog (7 : Nat) [] [] (AV.d (D.bool true)) []) ∧ ((AV.d (D.bool true) = AV.d (D.bool true)) ∧ (True))))))))))))))))))))))))))))) (h := {chain := true, els := [(4, .arr)], H := [(1, [(2, .val (.bool false))])], G := [(15, gAns (.d (.sl (g.map ivD)))), (19, gAns (.d (.int .i64 0))), (21, gAns (.d (.int .i64 c))), (28, gAns (.d (.int .i64 f))), (17, gAns (.d (.sl []))), (7, gYes)]}) (subs := [⟨[], [], I5 l cm0 [] 0, .exit 0, I5 l cm s l.length⟩, ⟨[], [], L5 cm s g 0 (-1) 0, .exit 4, L5 cm s g c f 512⟩]) (ws := []) (ρ := []) (by kernel_rfl) ?_
  simp only [List.length_map]
  repeat' (first | with_reducible exact True.intro | with_reducible refine And.intro ?_ ?_ | with_reducible refine condP_dec (fun _ => ?_) (fun _ => ?_) | with_reducible refine condP_eq (fun _ => ?_) (fun _ => ?_) | with_reducible refine condP_ne (fun _ => ?_) (fun _ => ?_) | with_reducible refine condP_not (condP_dec (fun _ => ?_) (fun _ => ?_)) | with_reducible refine condP_not (condP_eq (fun _ => ?_) (fun _ => ?_)) | with_reducible refine condP_not (condP_intro (fun _ => ?_) (fun _ => ?_)) | with_reducible refine condP_intro (fun _ => ?_) (fun _ => ?_))
  all_goals first | exact h1 | exact h2 | exact k1 | exact k2 | exact k3 | exact k4 | exact k5 | exact k6 | exact aw7 | rfl | omega | exact dno (by omega) | (refine congrArg D.bool ?_; simp; done) | (rw [hC0]; rfl) | (rw [hC0]; done) | skip

def acS (s : List Iv) (a : At) : List Iv := if a.c = true then rCut s (atI a) else rAdd s (atI a)
def acC (cm : List Bool) (a : At) : List Bool := cmQ (!a.c) cm a.f.toNat a.l.toNat
theorem atI_511 {a : At} (h : AtOk a) : (atI a).2 ≤ (511 : Nat) := by
  unfold AtOk at h
  show a.f + a.l ≤ _
  omega
structure Inv (s : List Iv) (cm : List Bool) : Prop where
  low : Low 511 s
  len : cm.length = 512
  get : ∀ i : Nat, i < 512 → cm[i]? = some (has s i)
theorem inv_step {s : List Iv} {cm : List Bool} (h : Inv s cm) {a : At} (ha : AtOk a) : Inv (acS s a) (acC cm a) := by
  have my := (atI_may ha).1
  have hy := atI_511 ha
  have hb := ha
  unfold AtOk at hb
  refine ⟨?_, (cmQ_len _ _ _ _).trans h.len, fun i hi => ?_⟩
  · unfold acS
    split
    · exact low_cut h.low my
    · exact low_add h.low my hy
  · unfold acC
    rw [cmQ_get _ _ _ _ (by rw [h.len]; exact hi), h.get i hi]
    have e : inV (atI a) i = decide (a.f.toNat ≤ i ∧ i < a.f.toNat + a.l.toNat) := decide_eq_decide.2 (by show (a.f ≤ (i : Int) ∧ (i : Int) < a.f + a.l) ↔ _; omega)
    unfold acS
    cases hc : a.c
    · rw [if_neg (c := false = true) (by simp), (add_has h.low.ok my).2, e]
      by_cases g : a.f.toNat ≤ i ∧ i < a.f.toNat + a.l.toNat
      · rw [if_pos g, decide_eq_true g]; simp
      · rw [if_neg g, decide_eq_false g]; simp
    · rw [if_pos rfl, (cut_has h.low.ok my).2, e]
      by_cases g : a.f.toNat ≤ i ∧ i < a.f.toNat + a.l.toNat
      · rw [if_pos g, decide_eq_true g]; simp
      · rw [if_neg g, decide_eq_false g]; simp
theorem inv_fold : ∀ (l : List At) {s : List Iv} {cm : List Bool}, (∀ a ∈ l, AtOk a) → Inv s cm → Inv (l.foldl acS s) (l.foldl acC cm)
  | [], _, _, _, h => h
  | a :: l, _, _, hl, h => inv_fold l (fun b hb => hl b (List.mem_cons_of_mem _ hb)) (inv_step h (hl a (by simp)))
theorem low_up {K M : Nat} {s : List Iv} (h : Low K s) (hk : K ≤ M) : Low M s := ⟨h.ok, fun n hn => h.lo n (by omega)⟩
/-- The first that is not there. -/
theorem first_no {s : List Iv} (h : Low 511 s) : 0 ≤ rFirst s 0 ∧ rFirst s 0 ≤ 511 ∧ has s (rFirst s 0) = false ∧ ∀ i : Int, 0 ≤ i → i < rFirst s 0 → has s i = true := by
  have e : rFirst s 0 = adv s 0 := rfl
  have h1 := has_adv h.ok.srt 0
  rw [← e] at h1
  have h2 : 0 ≤ rFirst s 0 ∧ ∀ i : Int, 0 ≤ i → i < rFirst s 0 → has s i = true := by
    rw [e]
    unfold adv
    by_cases g : (fnd s 0).2 = true
    · rw [if_pos g]
      obtain ⟨m1, m2, m3⟩ := fnd_mem g
      exact ⟨by omega, fun i hi hi2 => has_iff.2 ⟨_, m1, by omega, hi2⟩⟩
    · rw [if_neg g]
      exact ⟨by omega, fun i hi hi2 => by omega⟩
  refine ⟨h2.1, ?_, h1, h2.2⟩
  by_cases g : rFirst s 0 ≤ 511
  · exact g
  · have a := h2.2 511 (by omega) (by omega)
    rw [h.lo 511 (by omega)] at a
    cases a
def fF (v : Int) (k : Nat) : Int := if (k : Int) ≤ v then -1 else v
theorem ivalsNumbers_ok (x0 : D) (s0 : ∃ ds, CK.hasL [.sl true [.bool, .int .u8, .int .u8]] ds ∧ (if false then x0 = .agg ds else ds = [x0])) :
    FnOK Try.prog 5 [.d x0] [] (.d (.bool true)) [] := by
  obtain ⟨l, rfl, hl⟩ := ats_of x0 s0
  by_cases h : l.length ≤ 40
  · generalize hcm0 : List.replicate 512 false = cm0
    have i0 : Inv [] cm0 := ⟨low_nil 511, by rw [← hcm0, List.length_replicate], fun i hi => by rw [← hcm0, List.getElem?_replicate, if_pos hi]; rfl⟩
    have iv : ∀ j, Inv ((l.take j).foldl acS []) ((l.take j).foldl acC cm0) := fun j => inv_fold _ (fun a ha => hl a (List.mem_of_mem_take ha)) i0
    have hA := loops_n (P := Try.prog) (k := 0) (c := loopN Try.prog 5 0) (e := .exit 0) (I := fun j => (I5 l ((l.take j).foldl acC cm0) ((l.take j).foldl acS []) j).as 130) (by simp) l.length 0 (by omega) (fun j _ hj => by
      have hn := get_of hj
      have ij := iv j
      have ha := hl _ (get_mem hn)
      show Runs _ _ _ _ _ ((I5 l ((l.take (j + 1)).foldl acC cm0) ((l.take (j + 1)).foldl acS []) (j + 1)).as _)
      rw [take_snoc hn, List.foldl_append, List.foldl_append]
      show Runs _ _ _ _ _ ((I5 l (acC _ _) (acS _ _) (j + 1)).as _)
      generalize (l.take j).foldl acC cm0 = cm at *
      generalize (l.take j).foldl acS [] = s at *
      generalize l[j] = a at *
      have hb := ha
      unfold AtOk at hb
      have hlen := low_len ij.low
      have hL := ln5 l h cm ij.len (acS s a) a ha j hn a.f.toNat a.l.toNat (by omega) (by omega)
      cases hc : a.c
      · refine r5a l h cm _ s _ a ha j a.f.toNat (a.f.toNat + a.l.toNat) hn (by omega) hc ?_ hL
        unfold acS
        rw [hc, if_neg (by simp)]
        exact add11 s (by omega) (atI a)
      · refine r5c l h cm _ s _ a ha j a.f.toNat (a.f.toNat + a.l.toNat) hn (by omega) hc ?_ hL
        unfold acS
        rw [hc, if_pos rfl]
        exact cut13 s (by omega) (atI a)) (by simp only [List.take_length]; exact q5 l _ _)
    have il := iv l.length
    rw [List.take_length] at il
    try simp only [List.take_length] at hA
    generalize l.foldl acC cm0 = cm at *
    generalize l.foldl acS [] = s at *
    have ls := low_up (M := 512) il.low (by omega)
    have hm : mayB ((0, 512) : Iv) = true := by decide
    obtain ⟨g1, g2⟩ := gaps_ok ls.ok hm
    have hg : ∀ k : Nat, k < 512 → has (rGaps s (0, 512)) k = !has s k := fun k hk => by
      rw [g2, show inV (0, 512) (k : Int) = true from decide_eq_true (by show (0 : Int) ≤ k ∧ (k : Int) < 512; omega), Bool.true_and]
    have lg : Low 512 (rGaps s (0, 512)) := ⟨g1, fun n hn => by
      rw [g2, show inV (0, 512) n = false from decide_eq_false (by show ¬((0 : Int) ≤ n ∧ n < 512); omega), Bool.false_and]⟩
    have em : rMeet s (rGaps s (0, 512)) = [] := by
      obtain ⟨m1, m2⟩ := meet_ok ls.ok g1
      refine ok_inj m1 (low_nil 512).ok fun n => ?_
      rw [m2, g2]
      show (has s n && (inV (0, 512) n && !has s n)) = false
      cases has s n <;> simp
    have kg := gaps15 s (by have := low_len ls; omega) (0, 512)
    obtain ⟨v0, v1, v2, v3⟩ := first_no il.low
    have hnb := num_bd (has s)
    have n1 := low_len ls
    have n2 := low_len lg
    have kf := first28 s (by omega) 0
    have kc := count21 s (by omega)
    have k1 := chk19 s (by omega)
    have k2 := chk19 (rGaps s (0, 512)) (by omega)
    have km := meet17 s (rGaps s (0, 512)) (by omega) (by omega)
    rw [em] at km
    rw [iChk_iff.2 ls.ok] at k1
    rw [iChk_iff.2 g1] at k2
    rw [low_count ls] at kc
    generalize rGaps s (0, 512) = g at *
    generalize rFirst s 0 = v at *
    have hB := loops_n (P := Try.prog) (k := 0) (c := loopN Try.prog 5 2) (e := .exit 4) (I := fun k => (L5 cm s g (num (has s) k) (fF v k) k).as 130) (by simp) 512 0 (by omega) (fun k _ hk => by
      have hb := hnb k
      have h1 := has24 s k _ _ trivial (find41 s (by omega) k)
      have h2 := has24 g k _ _ trivial (find41 g (by omega) k)
      rw [show (fnd s k).2 = has s k from rHas_eq s k] at h1
      rw [show (fnd g k).2 = has g k from rHas_eq g k, hg k hk] at h2
      have hq := il.get k hk
      have en : num (has s) (k + 1) = num (has s) k + if has s k = true then 1 else 0 := rfl
      show Runs _ _ _ _ _ ((L5 cm s g (num (has s) (k + 1)) (fF v (k + 1)) (k + 1)).as _)
      rw [en]
      cases hh : has s k
      · rw [hh] at h1 h2 hq
        rw [if_neg (by simp), Int.add_zero]
        have hkv : v ≤ k := by
          by_cases g : v ≤ k
          · exact g
          · rw [v3 k (by omega) (by omega)] at hh; cases hh
        by_cases gk : (k : Int) ≤ v
        · have e1 : fF v k = -1 := if_pos gk
          have e2 : fF v (k + 1) = k := by unfold fF; rw [if_neg (by omega)]; omega
          rw [e1, e2]
          exact l5b cm il.len s g _ (-1) (by omega) k hk (by decide) hq false rfl h1 h2
        · have e1 : fF v k = v := if_neg gk
          have e2 : fF v (k + 1) = v := by unfold fF; rw [if_neg (by omega)]
          rw [e1, e2]
          exact l5c cm il.len s g _ v (by omega) k hk (by omega) hq false rfl h1 h2
      · rw [hh] at h1 h2 hq
        rw [if_pos rfl]
        have e2 : fF v (k + 1) = fF v k := by
          by_cases e : v = k
          · rw [e, hh] at v2; cases v2
          · unfold fF
            by_cases g : (k : Int) ≤ v
            · rw [if_pos g, if_pos (by omega)]
            · rw [if_neg g, if_neg (by omega)]
        rw [e2]
        exact l5a cm il.len s g _ _ (by omega) k hk hq true rfl h1 h2) (l5q cm s g _ _)
    have e0 : fF v 0 = -1 := if_pos v0
    have e5 : fF v 512 = v := if_neg (by omega)
    have e6 : num (has s) 0 = 0 := rfl
    rw [e0, e5, e6] at hB
    refine num5 l h cm0 cm ?_ s g _ v hA hB kg k1 k2 kc kf km
    rw [← hcm0]
    unfold bD
    rw [List.map_replicate]
  · exact num5n l (by omega)
end Go.Proofs.Ytkfiojolgkfbcaa
