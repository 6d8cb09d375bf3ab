/-
Part 6 of 9 of the proof of pipeEnds: the lemmas that it needs, of the texts C11S3, C11S4, C11S5, C11S6, C11Z, C11S11, C11S12, C11S13, C11P, C11S17, C11K. No condition but those that each lemma names.
-/
import Derived.Test.YtalpfhpeaaocmaaGreatE5
import Derived.Test.YtalpfhpeaaocmaaGreatE1
import Derived.Test.YtalpfhpeaaocmaaGreatE2
import Derived.Test.YtalpfhpeaaocmaaGreatE3
import Derived.Test.YtalpfhpeaaocmaaGreatE4

set_option linter.unusedSimpArgs false
set_option linter.unusedVariables false
set_option maxRecDepth 100000
set_option maxHeartbeats 1000000
section
namespace Go.Proofs.YtalpfhpeaaocmaaGreat.C11
open Sx Go.RowKit C06
def I28 (s : Sq) (a : Int) (j : Nat) : St := ⟨[(1, .ptr 0 0), (3, .d (.int .i64 a)), (39, .d (.sl (s.fl.map ckD))), (40, .d (.int .i64 s.fl.length)), (41, .d (.int .i64 j))], [(0, sqB s)]⟩
theorem r28 (s : Sq) (hl : s.fl.length < 1000000) (a : Int) (j : Nat) (c : Ck) (hn : s.fl[j]? = some c) (k1 : FnOK Tryz.prog 74 [.d (sqD s), .d (ckD c), .d (.int .i64 a)] [] (.d (.bool true)) []) : Runs Tryz.prog 0 (loopN Tryz.prog 51 0) (St.as (I28 s a j) 53) (.normal) (St.as (I28 s c.t (j+1)) 53) := by
 refine round_wp (p := condP (decide ((↑j : Int) < (↑s.fl.length : Int))) (((0 : Int) ≤ (↑j : Int)) ∧ ((List.map ckD s.fl)[(↑j : Int).toNat]? = some (ckD c)) ∧ (FnOK Tryz.prog 74 [AV.d (sqD s), AV.d (ckD c), vI a] [] (vB true) []) ∧ (rf (AV.ptr 0 0)) ∧ (rf (vI c.t)) ∧ (rf (vL (List.map ckD s.fl))) ∧ (rf (vI (↑s.fl.length : Int))) ∧ (vI (IntKind.i64.wrap ((↑j : Int) + (1 : Int))) = vI (↑(j + 1) : Int)) ∧ (rf (Ob.box [vI s.b, vS s.d, vI s.n, vL (List.map ckD s.fl), vL (List.map ivD s.cm)])) ∧ True) (False)) (h := {els := [(39, .el (ckD c))], G := [(74, gAns (.d (.bool true)))]}) (subs := []) (ws := []) (ρ := []) (by kernel_rfl) ?_
 have hj := get_lt hn
 have hi := inc_i64 (j := j) (by omega)
 try simp only [hi]
 refine condP_t (by rw [decide_eq_true_eq]; omega) ?_
 repeat' (with_reducible first|exact ⟨⟩|apply And.intro|(first|apply zA|apply zB|apply zC|apply zD|apply zE|apply zF|apply zG)<;>intro)
 all_goals first | exact k1 | exact el_map hn rfl | rfl | omega | exact dyes (by omega) | exact dno (by omega) | skip
theorem e28 (s : Sq) (hl : s.fl.length < 1000000) (a : Int) (j : Nat) (c : Ck) (hn : s.fl[j]? = some c) (k1 : FnOK Tryz.prog 74 [.d (sqD s), .d (ckD c), .d (.int .i64 a)] [] (.d (.bool false)) []) : Runs Tryz.prog 0 (loopN Tryz.prog 51 0) (St.as (I28 s a j) 53) (.ret) (St.as (⟨[(2, .d (.int .i64 10))], []⟩) 53) := by
 refine round_wp (p := condP (decide ((↑j : Int) < (↑s.fl.length : Int))) (((0 : Int) ≤ (↑j : Int)) ∧ ((List.map ckD s.fl)[(↑j : Int).toNat]? = some (ckD c)) ∧ (FnOK Tryz.prog 74 [AV.d (sqD s), AV.d (ckD c), vI a] [] (vB false) []) ∧ (rf (vI 10)) ∧ True) (False)) (h := {els := [(39, .el (ckD c))], G := [(74, gAns (.d (.bool false)))]}) (subs := []) (ws := []) (ρ := []) (by kernel_rfl) ?_
 have hj := get_lt hn
 have hi := inc_i64 (j := j) (by omega)
 try simp only [hi]
 refine condP_t (by rw [decide_eq_true_eq]; omega) ?_
 repeat' (with_reducible first|exact ⟨⟩|apply And.intro|(first|apply zA|apply zB|apply zC|apply zD|apply zE|apply zF|apply zG)<;>intro)
 all_goals first | exact k1 | exact el_map hn rfl | rfl | omega | exact dyes (by omega) | exact dno (by omega) | skip
theorem q28 (s : Sq) (a : Int) : Runs Tryz.prog 0 (loopN Tryz.prog 51 0) (St.as (I28 s a s.fl.length) 53) (.exit 1) (St.as (I28 s a s.fl.length) 53) := by
 refine round_wp (p := condP (decide ((↑s.fl.length : Int) < (↑s.fl.length : Int))) (False) ((rf (AV.ptr 0 0)) ∧ (rf (vI a)) ∧ (rf (vL (List.map ckD s.fl))) ∧ (rf (vI (↑s.fl.length : Int))) ∧ (rf (vI (↑s.fl.length : Int))) ∧ (rf (Ob.box [vI s.b, vS s.d, vI s.n, vL (List.map ckD s.fl), vL (List.map ivD s.cm)])) ∧ True)) (h := {}) (subs := []) (ws := []) (ρ := []) (by kernel_rfl) ?_
 repeat' (with_reducible first|exact ⟨⟩|apply And.intro|(first|apply zA|apply zB|apply zC|apply zD|apply zE|apply zF|apply zG)<;>intro)
 all_goals first | rfl | omega
theorem chk28a (s : Sq) (h : s.b < 0 ∨ s.b > 1099511623680 ∨ s.n < s.b ∨ IntKind.i64.wrap (s.n - s.b) > (s.d.length : Int)) (k1 hL : True) : FnOK Tryz.prog 51 ([.d (sqD s)]) ([]) (.d (.int .i64 (if rngB s = true then 8 else 0))) ([]) := by
 refine fnOK_wp (p := condP (decide (s.b < (0 : Int))) (condP (decide (s.b < (0 : Int))) ((vI 8 = vI (if rngB s = true then (8 : Int) else (0 : Int))) ∧ True) (condP (decide ((↑s.d.length : Int) > (4096 : Int))) ((vI 5 = vI (if rngB s = true then (8 : Int) else (0 : Int))) ∧ True) ((FnOK Tryz.prog 73 [AV.d (sqD s)] [] (vB false) []) ∧ (vI 4 = vI (if rngB s = true then (8 : Int) else (0 : Int))) ∧ True))) (condP (decide (s.b > (1099511623680 : Int))) (condP (decide (s.b > (1099511623680 : Int))) ((vI 8 = vI (if rngB s = true then (8 : Int) else (0 : Int))) ∧ True) (condP (decide ((↑s.d.length : Int) > (4096 : Int))) ((vI 5 = vI (if rngB s = true then (8 : Int) else (0 : Int))) ∧ True) ((FnOK Tryz.prog 73 [AV.d (sqD s)] [] (vB false) []) ∧ (vI 4 = vI (if rngB s = true then (8 : Int) else (0 : Int))) ∧ True))) (condP (decide (s.n < s.b)) (condP (decide (s.n < s.b)) ((vI 8 = vI (if rngB s = true then (8 : Int) else (0 : Int))) ∧ True) (condP (decide ((↑s.d.length : Int) > (4096 : Int))) ((vI 5 = vI (if rngB s = true then (8 : Int) else (0 : Int))) ∧ True) ((FnOK Tryz.prog 73 [AV.d (sqD s)] [] (vB false) []) ∧ (vI 4 = vI (if rngB s = true then (8 : Int) else (0 : Int))) ∧ True))) (condP (decide (IntKind.i64.wrap (s.n - s.b) > (↑s.d.length : Int))) ((vI 8 = vI (if rngB s = true then (8 : Int) else (0 : Int))) ∧ True) (condP (decide ((↑s.d.length : Int) > (4096 : Int))) ((vI 5 = vI (if rngB s = true then (8 : Int) else (0 : Int))) ∧ True) ((FnOK Tryz.prog 73 [AV.d (sqD s)] [] (vB false) []) ∧ (vI 4 = vI (if rngB s = true then (8 : Int) else (0 : Int))) ∧ True)))))) (h := {G := [(73, gAns (.d (.bool false)))]}) (subs := []) (ws := []) (ρ := []) (by kernel_rfl) ?_
 have e : rngB s = true := decide_eq_true h
 rw [e]
 repeat' (with_reducible first|exact ⟨⟩|apply And.intro|(first|apply zA|apply zB|apply zC|apply zD|apply zE|apply zF|apply zG)<;>intro)
 all_goals first | exact k1 | exact hL | rfl | omega | exact dyes (by omega) | exact dno (by omega) | (exfalso; omega) | skip
theorem chk28b (s : Sq) (h : ¬(s.b < 0 ∨ s.b > 1099511623680 ∨ s.n < s.b ∨ IntKind.i64.wrap (s.n - s.b) > (s.d.length : Int))) (hd : (s.d.length : Int) > 4096) (k1 hL : True) : FnOK Tryz.prog 51 ([.d (sqD s)]) ([]) (.d (.int .i64 5)) ([]) := by
 refine fnOK_wp (p := (D.bool (decide (s.b < (0 : Int))) = D.bool false) ∧ (D.bool (decide (s.b > (1099511623680 : Int))) = D.bool false) ∧ (D.bool (decide (s.n < s.b)) = D.bool false) ∧ (D.bool (decide (IntKind.i64.wrap (s.n - s.b) > (↑s.d.length : Int))) = D.bool false) ∧ (D.bool (decide ((↑s.d.length : Int) > (4096 : Int))) = D.bool true) ∧ (rf (vI 5)) ∧ True) (h := {H := [(1, [(2, .val (.bool false))]), (2, [(2, .val (.bool false))]), (3, [(4, .val (.bool false))]), (4, [(8, .val (.bool false))]), (6, [(3, .val (.bool true))])]}) (subs := []) (ws := []) (ρ := []) (by kernel_rfl) ?_
 repeat' (with_reducible first|exact ⟨⟩|apply And.intro|(first|apply zA|apply zB|apply zC|apply zD|apply zE|apply zF|apply zG)<;>intro)
 all_goals first | exact k1 | exact hL | rfl | omega | exact dyes (by omega) | exact dno (by omega) | (exfalso; omega) | skip
theorem chk28c (s : Sq) (h : ¬(s.b < 0 ∨ s.b > 1099511623680 ∨ s.n < s.b ∨ IntKind.i64.wrap (s.n - s.b) > (s.d.length : Int))) (hd : ¬(s.d.length : Int) > 4096) (k1 : FnOK Tryz.prog 73 [.d (sqD s)] [] (.d (.bool false)) []) (hL : True) : FnOK Tryz.prog 51 ([.d (sqD s)]) ([]) (.d (.int .i64 4)) ([]) := by
 refine fnOK_wp (p := (D.bool (decide (s.b < (0 : Int))) = D.bool false) ∧ (D.bool (decide (s.b > (1099511623680 : Int))) = D.bool false) ∧ (D.bool (decide (s.n < s.b)) = D.bool false) ∧ (D.bool (decide (IntKind.i64.wrap (s.n - s.b) > (↑s.d.length : Int))) = D.bool false) ∧ (D.bool (decide ((↑s.d.length : Int) > (4096 : Int))) = D.bool false) ∧ (FnOK Tryz.prog 73 [AV.d (sqD s)] [] (vB false) []) ∧ (rf (vI 4)) ∧ True) (h := {G := [(73, gAns (.d (.bool false)))], H := [(1, [(2, .val (.bool false))]), (2, [(2, .val (.bool false))]), (3, [(4, .val (.bool false))]), (4, [(8, .val (.bool false))]), (6, [(3, .val (.bool false))])]}) (subs := []) (ws := []) (ρ := []) (by kernel_rfl) ?_
 repeat' (with_reducible first|exact ⟨⟩|apply And.intro|(first|apply zA|apply zB|apply zC|apply zD|apply zE|apply zF|apply zG)<;>intro)
 all_goals first | exact k1 | exact hL | rfl | omega | exact dyes (by omega) | exact dno (by omega) | (exfalso; omega) | skip
theorem chk28d (s : Sq) (h : ¬(s.b < 0 ∨ s.b > 1099511623680 ∨ s.n < s.b ∨ IntKind.i64.wrap (s.n - s.b) > (s.d.length : Int))) (hd : ¬(s.d.length : Int) > 4096) (k1 : FnOK Tryz.prog 73 [.d (sqD s)] [] (.d (.bool true)) []) (hL : Loops Tryz.prog 0 (loopN Tryz.prog 51 0) ((I28 s s.b 0).as 53) .ret ((⟨[(2, .d (.int .i64 10))], []⟩ : St).as 53)) : FnOK Tryz.prog 51 ([.d (sqD s)]) ([]) (.d (.int .i64 10)) ([]) := by
 refine fnOK_wp (p := (D.bool (decide (s.b < (0 : Int))) = D.bool false) ∧ (D.bool (decide (s.b > (1099511623680 : Int))) = D.bool false) ∧ (D.bool (decide (s.n < s.b)) = D.bool false) ∧ (D.bool (decide (IntKind.i64.wrap (s.n - s.b) > (↑s.d.length : Int))) = D.bool false) ∧ (D.bool (decide ((↑s.d.length : Int) > (4096 : Int))) = D.bool false) ∧ (FnOK Tryz.prog 73 [AV.d (sqD s)] [] (vB true) []) ∧ (rf (AV.ptr 1008 0)) ∧ (rf (vI s.b)) ∧ (rf (vL (List.map ckD s.fl))) ∧ (vI (↑(List.map ckD s.fl).length : Int) = vI (↑s.fl.length : Int)) ∧ (rf (vI 0)) ∧ (rf (Ob.box [vI s.b, vS s.d, vI s.n, vL (List.map ckD s.fl), vL (List.map ivD s.cm)])) ∧ (LoopsS Tryz.prog 0 (loopN Tryz.prog 51 0) (I28 s s.b 0) Exit.ret (St.mk [(2, vI 10)] []) 53) ∧ (rf (vI 10)) ∧ True) (h := {G := [(73, gAns (.d (.bool true)))], H := [(1, [(2, .val (.bool false))]), (2, [(2, .val (.bool false))]), (3, [(4, .val (.bool false))]), (4, [(8, .val (.bool false))]), (6, [(3, .val (.bool false))])]}) (subs := [⟨[], [], I28 s s.b 0, .ret, ⟨[(2, .d (.int .i64 10))], []⟩⟩]) (ws := []) (ρ := []) (by kernel_rfl) ?_
 simp only [List.length_map]
 repeat' (with_reducible first|exact ⟨⟩|apply And.intro|(first|apply zA|apply zB|apply zC|apply zD|apply zE|apply zF|apply zG)<;>intro)
 all_goals first | exact k1 | exact hL | rfl | omega | exact dyes (by omega) | exact dno (by omega) | (exfalso; omega) | skip
theorem chk28e (s : Sq) (h : ¬(s.b < 0 ∨ s.b > 1099511623680 ∨ s.n < s.b ∨ IntKind.i64.wrap (s.n - s.b) > (s.d.length : Int))) (hd : ¬(s.d.length : Int) > 4096) (k1 : FnOK Tryz.prog 73 [.d (sqD s)] [] (.d (.bool true)) []) (a : Int) (hL : Loops Tryz.prog 0 (loopN Tryz.prog 51 0) ((I28 s s.b 0).as 53) (.exit 1) ((I28 s a s.fl.length).as 53)) : FnOK Tryz.prog 51 ([.d (sqD s)]) ([]) (.d (.int .i64 0)) ([]) := by
 refine fnOK_wp (p := (D.bool (decide (s.b < (0 : Int))) = D.bool false) ∧ (D.bool (decide (s.b > (1099511623680 : Int))) = D.bool false) ∧ (D.bool (decide (s.n < s.b)) = D.bool false) ∧ (D.bool (decide (IntKind.i64.wrap (s.n - s.b) > (↑s.d.length : Int))) = D.bool false) ∧ (D.bool (decide ((↑s.d.length : Int) > (4096 : Int))) = D.bool false) ∧ (FnOK Tryz.prog 73 [AV.d (sqD s)] [] (vB true) []) ∧ (rf (AV.ptr 1008 0)) ∧ (rf (vI s.b)) ∧ (rf (vL (List.map ckD s.fl))) ∧ (vI (↑(List.map ckD s.fl).length : Int) = vI (↑s.fl.length : Int)) ∧ (rf (vI 0)) ∧ (rf (Ob.box [vI s.b, vS s.d, vI s.n, vL (List.map ckD s.fl), vL (List.map ivD s.cm)])) ∧ (LoopsS Tryz.prog 0 (loopN Tryz.prog 51 0) (I28 s s.b 0) (Exit.exit 1) (I28 s a s.fl.length) 53) ∧ (rf (vI 0)) ∧ True) (h := {G := [(73, gAns (.d (.bool true)))], H := [(1, [(2, .val (.bool false))]), (2, [(2, .val (.bool false))]), (3, [(4, .val (.bool false))]), (4, [(8, .val (.bool false))]), (6, [(3, .val (.bool false))])]}) (subs := [⟨[], [], I28 s s.b 0, .exit 1, I28 s a s.fl.length⟩]) (ws := []) (ρ := []) (by kernel_rfl) ?_
 simp only [List.length_map]
 repeat' (with_reducible first|exact ⟨⟩|apply And.intro|(first|apply zA|apply zB|apply zC|apply zD|apply zE|apply zF|apply zG)<;>intro)
 all_goals first | exact k1 | exact hL | rfl | omega | exact dyes (by omega) | exact dno (by omega) | (exfalso; omega) | skip
theorem lp28 (s : Sq) (hf : s.fl.length < 1000000) (hc : s.cm.length < 300000) : ∀ (l : List Ck) (j : Nat) (a : Int), s.fl.drop j = l → j ≤ s.fl.length →
  (flB s l a = true → ∃ a', Loops Tryz.prog 0 (loopN Tryz.prog 51 0) ((I28 s a j).as 53) (.exit 1) ((I28 s a' s.fl.length).as 53)) ∧
  (flB s l a = false → Loops Tryz.prog 0 (loopN Tryz.prog 51 0) ((I28 s a j).as 53) .ret ((⟨[(2, .d (.int .i64 10))], []⟩ : St).as 53))
 | [], j, a, h, hj => by
  have e : j = s.fl.length := by
   have := congrArg List.length h
   rw [List.length_drop, List.length_nil] at this
   omega
  subst e
  exact ⟨fun _ => ⟨a, .out (q28 s a) (by simp)⟩, fun g => by cases g⟩
 | c :: l, j, a, h, hj => by
  have hlt : j < s.fl.length := by
   have := congrArg List.length h
   rw [List.length_drop, List.length_cons] at this
   omega
  have hn : s.fl[j]? = some c := by
   have := congrArg (fun z => z[0]?) h
   simpa using this
  have hd : s.fl.drop (j + 1) = l := by
   have := congrArg (fun z => z.drop 1) h
   simpa using this
  obtain ⟨i1, i2⟩ := lp28 s hf hc l (j + 1) c.t hd (by omega)
  have k := fits62 s hc c a
  unfold flB
  cases g : fitsB s c a
  ·rw [g] at k
   exact ⟨fun q => by simp at q, fun _ => .out (e28 s hf a j c hn k) (by simp)⟩
  ·rw [g] at k
   have r := r28 s hf a j c hn k
   refine ⟨fun q => ?_, fun q => ?_⟩
   ·obtain ⟨a', h'⟩ := i1 (by simpa using q)
    exact ⟨a', .next r h'⟩
   ·exact .next r (i2 (by simpa using q))
theorem chk28 (s : Sq) (hf : s.fl.length < 1000000) (hc : s.cm.length < 300000) : FnOK Tryz.prog 51 [.d (sqD s)] [] (.d (.int .i64 (sChk s))) [] := by
 have k1 := came61 s (by omega)
 unfold sChk
 by_cases h : s.b < 0 ∨ s.b > 1099511623680 ∨ s.n < s.b ∨ IntKind.i64.wrap (s.n - s.b) > (s.d.length : Int)
 ·have e : rngB s = true := decide_eq_true h
  have k := chk28a s h trivial trivial
  rw [e] at k ⊢
  exact k
 ·have e : rngB s = false := decide_eq_false h
  rw [e, if_neg (by simp)]
  by_cases hd : (s.d.length : Int) > 4096
  ·rw [if_pos hd]; exact chk28b s h hd trivial trivial
  ·rw [if_neg hd]
   cases hm : cameB s
   ·rw [hm] at k1
    exact chk28c s h hd k1 trivial
   ·rw [hm] at k1
    rw [if_neg (by simp)]
    obtain ⟨i1, i2⟩ := lp28 s hf hc s.fl 0 s.b rfl (by omega)
    cases hq : flB s s.fl s.b
    ·exact chk28d s h hd k1 (i2 hq)
    ·obtain ⟨a', h'⟩ := i1 hq
     exact chk28e s h hd k1 a' h'
def flS (n : Int) (c : Ck) : Int := if c.l = true then n else IntKind.i64.wrap (n + cSz c)
def rFlight (s : Sq) : Int := s.fl.foldl flS 0
def I24 (s : Sq) (n : Int) (j : Nat) : St := ⟨[(3, .d (.int .i64 n)), (7, .d (.sl (s.fl.map ckD))), (8, .d (.int .i64 s.fl.length)), (9, .d (.int .i64 j))], []⟩
theorem r24 (s : Sq) (hl : s.fl.length < 1000000) (a : Int) (j : Nat) (c : Ck) (hn : s.fl[j]? = some c) (k1 : FnOK Tryz.prog 81 [.d (ckD c)] [] (.d (.int .i64 (cSz c))) []) (hc : c.l = false) : Runs Tryz.prog 0 (loopN Tryz.prog 78 0) (St.as (I24 s a j) 22) (.normal) (St.as (I24 s (IntKind.i64.wrap (a + cSz c)) (j+1)) 22) := by
 refine round_wp (p := condP (decide ((↑j : Int) < (↑s.fl.length : Int))) (((0 : Int) ≤ (↑j : Int)) ∧ ((List.map ckD s.fl)[(↑j : Int).toNat]? = some (ckD c)) ∧ ((D.bool !c.l) = D.bool true) ∧ (FnOK Tryz.prog 81 [AV.d (ckD c)] [] (vI (cSz c)) []) ∧ (rf (vI (IntKind.i64.wrap (a + cSz c)))) ∧ (rf (vL (List.map ckD s.fl))) ∧ (rf (vI (↑s.fl.length : Int))) ∧ (vI (IntKind.i64.wrap ((↑j : Int) + (1 : Int))) = vI (↑(j + 1) : Int)) ∧ True) (False)) (h := {els := [(7, .el (ckD c))], H := [(5, [(2, .val (.bool true))])], G := [(81, gAns (.d (.int .i64 (cSz c))))]}) (subs := []) (ws := []) (ρ := []) (by kernel_rfl) ?_
 have hq : D.bool (!c.l) = D.bool true := by rw [hc]; rfl
 have hj := get_lt hn
 have hi := inc_i64 (j := j) (by omega)
 try simp only [hi]
 refine condP_t (by rw [decide_eq_true_eq]; omega) ?_
 repeat' (with_reducible first|exact ⟨⟩|apply And.intro|(first|apply zA|apply zB|apply zC|apply zD|apply zE|apply zF|apply zG)<;>intro)
 all_goals first | exact k1 | exact hq | exact el_map hn rfl | rfl | omega | skip
theorem s24 (s : Sq) (hl : s.fl.length < 1000000) (a : Int) (j : Nat) (c : Ck) (hn : s.fl[j]? = some c) (hc : c.l = true) : Runs Tryz.prog 0 (loopN Tryz.prog 78 0) (St.as (I24 s a j) 22) (.normal) (St.as (I24 s a (j+1)) 22) := by
 refine round_wp (p := condP (decide ((↑j : Int) < (↑s.fl.length : Int))) (((0 : Int) ≤ (↑j : Int)) ∧ ((List.map ckD s.fl)[(↑j : Int).toNat]? = some (ckD c)) ∧ ((D.bool !c.l) = D.bool false) ∧ (rf (vI a)) ∧ (rf (vL (List.map ckD s.fl))) ∧ (rf (vI (↑s.fl.length : Int))) ∧ (vI (IntKind.i64.wrap ((↑j : Int) + (1 : Int))) = vI (↑(j + 1) : Int)) ∧ True) (False)) (h := {els := [(7, .el (ckD c))], H := [(5, [(2, .val (.bool false))])]}) (subs := []) (ws := []) (ρ := []) (by kernel_rfl) ?_
 have hq : D.bool (!c.l) = D.bool false := by rw [hc]; rfl
 have hj := get_lt hn
 have hi := inc_i64 (j := j) (by omega)
 try simp only [hi]
 refine condP_t (by rw [decide_eq_true_eq]; omega) ?_
 repeat' (with_reducible first|exact ⟨⟩|apply And.intro|(first|apply zA|apply zB|apply zC|apply zD|apply zE|apply zF|apply zG)<;>intro)
 all_goals first | exact hq | exact el_map hn rfl | rfl | omega | skip
theorem q24 (s : Sq) (a : Int) : Runs Tryz.prog 0 (loopN Tryz.prog 78 0) (St.as (I24 s a s.fl.length) 22) (.exit 0) (St.as (I24 s a s.fl.length) 22) := by
 refine round_wp (p := condP (decide ((↑s.fl.length : Int) < (↑s.fl.length : Int))) (False) ((rf (vI a)) ∧ (rf (vL (List.map ckD s.fl))) ∧ (rf (vI (↑s.fl.length : Int))) ∧ (rf (vI (↑s.fl.length : Int))) ∧ True)) (h := {}) (subs := []) (ws := []) (ρ := []) (by kernel_rfl) ?_
 repeat' (with_reducible first|exact ⟨⟩|apply And.intro|(first|apply zA|apply zB|apply zC|apply zD|apply zE|apply zF|apply zG)<;>intro)
 all_goals first | rfl | omega
theorem flight24w (s : Sq) (a : Int) (hL : Loops Tryz.prog 0 (loopN Tryz.prog 78 0) ((I24 s 0 0).as 22) (.exit 0) ((I24 s a s.fl.length).as 22)) : FnOK Tryz.prog 78 ([.d (sqD s)]) ([]) (.d (.int .i64 a)) ([]) := by
 refine fnOK_wp (p := (rf (vI 0)) ∧ (rf (vL (List.map ckD s.fl))) ∧ (vI (↑(List.map ckD s.fl).length : Int) = vI (↑s.fl.length : Int)) ∧ (rf (vI 0)) ∧ (LoopsS Tryz.prog 0 (loopN Tryz.prog 78 0) (I24 s (0 : Int) 0) (Exit.exit 0) (I24 s a s.fl.length) 22) ∧ (rf (vI a)) ∧ True) (h := {}) (subs := [⟨[], [], I24 s 0 0, .exit 0, I24 s a s.fl.length⟩]) (ws := []) (ρ := []) (by kernel_rfl) ?_
 simp only [List.length_map]
 repeat' (with_reducible first|exact ⟨⟩|apply And.intro|(first|apply zA|apply zB|apply zC|apply zD|apply zE|apply zF|apply zG)<;>intro)
 all_goals first | exact hL | rfl | skip
theorem flight24 (s : Sq) (hf : s.fl.length < 1000000) : FnOK Tryz.prog 78 [.d (sqD s)] [] (.d (.int .i64 (rFlight s))) [] := by
 have h := loops_n (P := Tryz.prog) (k := 0) (c := loopN Tryz.prog 78 0) (e := .exit 0) (I := fun j => (I24 s ((s.fl.take j).foldl flS 0) j).as 22) (by simp) s.fl.length 0 (by omega) (fun j _ hj => by
  have hn := get_of hj
  show Runs _ _ _ _ _ ((I24 s ((s.fl.take (j + 1)).foldl flS 0) (j + 1)).as _)
  rw [take_snoc hn, List.foldl_append]
  show Runs _ _ _ _ _ ((I24 s (flS ((s.fl.take j).foldl flS 0) s.fl[j]) (j + 1)).as _)
  unfold flS
  split
  ·next g => exact s24 s hf _ j _ hn g
  ·next g => exact r24 s hf _ j _ hn (size37 _ trivial trivial) (by cases q : s.fl[j].l; rfl; exact absurd q g)) (by simp only [List.take_length]; exact q24 s _)
 exact flight24w s _ h
theorem own33 (s : Sq) (k1 : FnOK Tryz.prog 75 [.d (.sl (s.fl.map ckD))] [] (.own 0 5) [.row 5 (s.fl.map ckD)]) (k2 : FnOK Tryz.prog 76 [.d (.sl (s.cm.map ivD))] [] (.own 0 2) [.row 2 (s.cm.map ivD)]) : FnOK Tryz.prog 52 ([.d (sqD s)]) ([]) (.d (sqD s)) ([]) := by
 refine fnOK_wp (p := ((0 : Int) ≤ (0 : Int) ∧ (0 : Int) ≤ (↑(List.map ckD s.fl).length : Int) ∧ (↑(List.map ckD s.fl).length : Int) ≤ (↑(List.map ckD s.fl).length : Int) ∧ (↑(List.map ckD s.fl).length : Int) ≤ (↑(List.map ckD s.fl).length : Int)) ∧ (∀ (e : D), e ∈ List.map ckD s.fl → e.cells.length = 5) ∧ (FnOK Tryz.prog 75 [vL (List.drop 0 (List.take (↑(List.map ckD s.fl).length : Int).toNat (List.map ckD s.fl)))] [] (AV.own 0 5) [Ob.row 5 (List.map ckD s.fl)]) ∧ (FnOK Tryz.prog 76 [vL (List.map ivD s.cm)] [] (AV.own 0 2) [Ob.row 2 (List.map ivD s.cm)]) ∧ (rf (AV.d (sqD s))) ∧ True) (h := {H := [(1, [(9, .call [] (.own 0 5) [.row 5 (s.fl.map ckD)])]), (2, [(2, .call [] (.own 0 2) [.row 2 (s.cm.map ivD)])])]}) (subs := []) (ws := []) (ρ := []) (by kernel_rfl) ?_
 try simp only [Int.toNat_natCast, List.take_length]
 repeat' (with_reducible first|exact ⟨⟩|apply And.intro|(first|apply zA|apply zB|apply zC|apply zD|apply zE|apply zF|apply zG)<;>intro)
 all_goals first | exact k1 | exact k2 | exact ckD_sz _ | rfl | omega | (rw [List.take_length]; done) | (simp; done) | skip
end Go.Proofs.YtalpfhpeaaocmaaGreat.C11
end
section
namespace Go.Proofs.YtalpfhpeaaocmaaGreat.C11
open Sx Go.RowKit C06
structure SqOk (s : Sq) : Prop where
 b : -9223372036854775808 ≤ s.b ∧ s.b < 9223372036854775808
 n : -9223372036854775808 ≤ s.n ∧ s.n < 9223372036854775808
 fl : s.fl.length < 100000
 cm : s.cm.length < 100000
 d : s.d.length < 1000000
theorem own33h (s : Sq) (k1 : FnOK Tryz.prog 75 [.d (.sl (s.fl.map ckD))] [] (.own 0 5) [.row 5 (s.fl.map ckD)]) (k2 : FnOK Tryz.prog 76 [.d (.sl (s.cm.map ivD))] [] (.own 0 2) [.row 2 (s.cm.map ivD)]) : FnOK Tryz.prog 52 ([.d (sqD s)]) ([]) (.agg [.d (.int .i64 s.b), .d (.str s.d), .d (.int .i64 s.n), .own 0 5, .d (.sl (s.cm.map ivD))]) ([.row 5 (s.fl.map ckD)]) := by
 refine fnOK_wp (p := ((0 : Int) ≤ (0 : Int) ∧ (0 : Int) ≤ (↑(List.map ckD s.fl).length : Int) ∧ (↑(List.map ckD s.fl).length : Int) ≤ (↑(List.map ckD s.fl).length : Int) ∧ (↑(List.map ckD s.fl).length : Int) ≤ (↑(List.map ckD s.fl).length : Int)) ∧ (∀ (e : D), e ∈ List.map ckD s.fl → e.cells.length = 5) ∧ (FnOK Tryz.prog 75 [vL (List.drop 0 (List.take (↑(List.map ckD s.fl).length : Int).toNat (List.map ckD s.fl)))] [] (AV.own 0 5) [Ob.row 5 (List.map ckD s.fl)]) ∧ (FnOK Tryz.prog 76 [vL (List.map ivD s.cm)] [] (AV.own 0 2) [Ob.row 2 (List.map ivD s.cm)]) ∧ (rf (AV.agg [vI s.b, vS s.d, vI s.n, AV.own 1096 5, vL (List.map ivD s.cm)])) ∧ (rf (Ob.row 5 (List.map ckD s.fl))) ∧ True) (h := {W := [(3, [.freeze 1128])], H := [(1, [(9, .call [] (.own 0 5) [.row 5 (s.fl.map ckD)])]), (2, [(2, .call [] (.own 0 2) [.row 2 (s.cm.map ivD)])])]}) (subs := []) (ws := []) (ρ := []) (by kernel_rfl) ?_
 try simp only [Int.toNat_natCast, List.take_length]
 repeat' (with_reducible first|exact ⟨⟩|apply And.intro|(first|apply zA|apply zB|apply zC|apply zD|apply zE|apply zF|apply zG)<;>intro)
 all_goals first | exact k1 | exact k2 | exact ckD_sz _ | rfl | omega | (rw [List.take_length]; done) | (simp; done) | skip
theorem ownD (s : Sq) (h : SqOk s) : FnOK Tryz.prog 52 [.d (sqD s)] [] (.d (sqD s)) [] := own33 s (ckD_clone s.fl (by have := h.fl; omega)) (ivD_clone s.cm (by have := h.cm; omega))
theorem ownH (s : Sq) (h : SqOk s) : FnOK Tryz.prog 52 [.d (sqD s)] [] (.agg [.d (.int .i64 s.b), .d (.str s.d), .d (.int .i64 s.n), .own 0 5, .d (.sl (s.cm.map ivD))]) [.row 5 (s.fl.map ckD)] := own33h s (ckD_clone s.fl (by have := h.fl; omega)) (ivD_clone s.cm (by have := h.cm; omega))
def wrN (s : Sq) (x : List UInt8) : Int := min (x.length : Int) (4096 - (s.d.length : Int))
def rWrite (s : Sq) (x : List UInt8) : Sq × Int :=
 if sChk s ≠ 0 then (s, 0) else if s.b + (s.d.length : Int) > lastP - wrN s x then (s, 0) else ({ s with d := s.d ++ x.take (wrN s x).toNat }, wrN s x)
theorem write10a (s : Sq) (x : List UInt8) (e : Int) (k1 : FnOK Tryz.prog 51 [.d (sqD s)] [] (.d (.int .i64 e)) []) (k2 : FnOK Tryz.prog 52 [.d (sqD s)] [] (.d (sqD s)) []) (he : e ≠ 0) (k3 hm hq : True) : FnOK Tryz.prog 27 ([.d (sqD s), .d (.str x)]) ([]) (.tup [.d (sqD s), .d (.int .i64 0)]) ([]) := by
 refine fnOK_wp (p := (FnOK Tryz.prog 51 [AV.d (sqD s)] [] (vI e) []) ∧ (D.bool (e != (0 : Int)) = D.bool true) ∧ (FnOK Tryz.prog 52 [AV.d (sqD s)] [] (AV.d (sqD s)) []) ∧ (rf (AV.tup [AV.d (sqD s), vI 0])) ∧ True) (h := {G := [(51, gAns (.d (.int .i64 e))), (52, gAns (.d (sqD s)))], H := [(1, [(2, .val (.bool true))])]}) (subs := []) (ws := []) (ρ := []) (by kernel_rfl) ?_
 repeat' (with_reducible first|exact ⟨⟩|apply And.intro|(first|apply zA|apply zB|apply zC|apply zD|apply zE|apply zF|apply zG)<;>intro)
 all_goals first | exact k1 | exact k2 | exact k3 | exact congrArg (D.int .i64) hm | rfl | omega | exact dyes (by omega) | exact dno (by omega) | (refine congrArg D.bool ?_; simp [he]; done) | (refine congrArg D.bool ?_; exact hq) | (simp; omega) | skip
theorem write10b (s : Sq) (x : List UInt8) (e : Int) (k1 : FnOK Tryz.prog 51 [.d (sqD s)] [] (.d (.int .i64 e)) []) (k2 : FnOK Tryz.prog 52 [.d (sqD s)] [] (.d (sqD s)) []) (he : e = 0) (r m : Int) (k3 : FnOK Tryz.prog 37 [.d (sqD s)] [] (.d (.int .i64 r)) []) (hm : min (x.length : Int) r = m) (hq : decide (IntKind.i64.wrap (s.b + (s.d.length : Int)) > IntKind.i64.wrap (1099511623680 - m)) = true) : FnOK Tryz.prog 27 ([.d (sqD s), .d (.str x)]) ([]) (.tup [.d (sqD s), .d (.int .i64 0)]) ([]) := by
 refine fnOK_wp (p := (FnOK Tryz.prog 51 [AV.d (sqD s)] [] (vI e) []) ∧ (D.bool (e != (0 : Int)) = D.bool false) ∧ (FnOK Tryz.prog 37 [AV.d (sqD s)] [] (vI r) []) ∧ (D.int .i64 (min (↑x.length : Int) r) = D.int .i64 m) ∧ (D.bool (decide (IntKind.i64.wrap (s.b + (↑s.d.length : Int)) > IntKind.i64.wrap ((1099511623680 : Int) - m))) = D.bool true) ∧ (FnOK Tryz.prog 52 [AV.d (sqD s)] [] (AV.d (sqD s)) []) ∧ (rf (AV.tup [AV.d (sqD s), vI 0])) ∧ True) (h := {G := [(51, gAns (.d (.int .i64 e))), (52, gAns (.d (sqD s))), (37, gAns (.d (.int .i64 r)))], H := [(1, [(2, .val (.bool false))]), (3, [(4, .val (.int .i64 m))]), (4, [(8, .val (.bool true))])]}) (subs := []) (ws := []) (ρ := []) (by kernel_rfl) ?_
 repeat' (with_reducible first|exact ⟨⟩|apply And.intro|(first|apply zA|apply zB|apply zC|apply zD|apply zE|apply zF|apply zG)<;>intro)
 all_goals first | exact k1 | exact k2 | exact k3 | exact congrArg (D.int .i64) hm | rfl | omega | exact dyes (by omega) | exact dno (by omega) | (refine congrArg D.bool ?_; simp [he]; done) | (refine congrArg D.bool ?_; exact hq) | (simp; omega) | skip
theorem write10c (s : Sq) (x : List UInt8) (e : Int) (k1 : FnOK Tryz.prog 51 [.d (sqD s)] [] (.d (.int .i64 e)) []) (k2 : FnOK Tryz.prog 52 [.d (sqD s)] [] (.d (sqD s)) []) (he : e = 0) (r m : Int) (k3 : FnOK Tryz.prog 37 [.d (sqD s)] [] (.d (.int .i64 r)) []) (hm : min (x.length : Int) r = m) (hm0 : 0 ≤ m) (hm1 : m ≤ x.length) (hsd : s.d.length < 100000) (hxl : x.length < 100000000) (hq : decide (IntKind.i64.wrap (s.b + (s.d.length : Int)) > IntKind.i64.wrap (1099511623680 - m)) = false) : FnOK Tryz.prog 27 ([.d (sqD s), .d (.str x)]) ([]) (.tup [.d (sqD { s with d := s.d ++ x.take m.toNat }), .d (.int .i64 m)]) ([]) := by
 refine fnOK_wp (p := (FnOK Tryz.prog 51 [AV.d (sqD s)] [] (vI e) []) ∧ (D.bool (e != (0 : Int)) = D.bool false) ∧ (FnOK Tryz.prog 37 [AV.d (sqD s)] [] (vI r) []) ∧ (D.int .i64 (min (↑x.length : Int) r) = D.int .i64 m) ∧ (D.bool (decide (IntKind.i64.wrap (s.b + (↑s.d.length : Int)) > IntKind.i64.wrap ((1099511623680 : Int) - m))) = D.bool false) ∧ (FnOK Tryz.prog 52 [AV.d (sqD s)] [] (AV.d (sqD s)) []) ∧ ((0 : Int) ≤ (0 : Int) ∧ (0 : Int) ≤ m ∧ m ≤ (↑x.length : Int)) ∧ ((↑(s.d.length + (List.drop 0 (List.take m.toNat x)).length) : Int) ≤ (9223372036854775807 : Int)) ∧ (AV.tup [AV.d (.agg [D.int .i64 s.b, D.str (s.d ++ List.drop 0 (List.take m.toNat x)), D.int .i64 s.n, D.sl (List.map ckD s.fl), D.sl (List.map ivD s.cm)]), vI m] = AV.tup [AV.d (.agg [D.int .i64 s.b, D.str (s.d ++ List.take m.toNat x), D.int .i64 s.n, D.sl (List.map ckD s.fl), D.sl (List.map ivD s.cm)]), vI m]) ∧ True) (h := {G := [(51, gAns (.d (.int .i64 e))), (52, gAns (.d (sqD s))), (37, gAns (.d (.int .i64 r)))], H := [(1, [(2, .val (.bool false))]), (3, [(4, .val (.int .i64 m))]), (4, [(8, .val (.bool false))])]}) (subs := []) (ws := []) (ρ := []) (by kernel_rfl) ?_
 have hmx : IntKind.i64.max = 9223372036854775807 := by decide
 repeat' (with_reducible first|exact ⟨⟩|apply And.intro|(first|apply zA|apply zB|apply zC|apply zD|apply zE|apply zF|apply zG)<;>intro)
 all_goals first | exact k1 | exact k2 | exact k3 | exact congrArg (D.int .i64) hm | rfl | omega | exact dyes (by omega) | exact dno (by omega) | (refine congrArg D.bool ?_; simp [he]; done) | (refine congrArg D.bool ?_; exact hq) | (simp; omega) | skip
theorem write10 (s : Sq) (h : SqOk s) (x : List UInt8) (hx : x.length < 100000000) : FnOK Tryz.prog 27 [.d (sqD s), .d (.str x)] [] (.tup [.d (sqD (rWrite s x).1), .d (.int .i64 (rWrite s x).2)]) [] := by
 have k1 := chk28 s (by have := h.fl; omega) (by have := h.cm; omega)
 have k2 := ownD s h
 have k3 := room26 s trivial trivial
 unfold rWrite
 by_cases he : sChk s = 0
 ·obtain ⟨⟨c1, c2, c3, c4⟩, c5, -⟩ := sChk_ok h.n.2 he
  rw [if_neg (by omega)]
  have e1 : IntKind.i64.wrap (4096 - (s.d.length : Int)) = 4096 - (s.d.length : Int) := wrap_in (by omega) (by omega)
  rw [e1] at k3
  have hN : wrN s x = min (x.length : Int) (4096 - (s.d.length : Int)) := rfl
  have e2 : IntKind.i64.wrap (s.b + (s.d.length : Int)) = s.b + (s.d.length : Int) := wrap_in (by omega) (by unfold lastP at c2; omega)
  have e3 : IntKind.i64.wrap (1099511623680 - wrN s x) = lastP - wrN s x := wrap_in (by omega) (by omega)
  by_cases g : s.b + (s.d.length : Int) > lastP - wrN s x
  ·rw [if_pos g]
   exact write10b s x _ k1 k2 he _ (wrN s x) k3 rfl (by rw [e2, e3]; exact decide_eq_true g)
  ·rw [if_neg g]
   exact write10c s x _ k1 k2 he _ (wrN s x) k3 rfl (by omega) (by omega) (by have := h.d; omega) hx (by rw [e2, e3]; exact decide_eq_false g)
 ·rw [if_pos he]
  exact write10a s x _ k1 k2 he trivial trivial trivial
def again (c : Ck) (now : Int) : Ck := ⟨c.f, c.t, now, min (IntKind.i64.wrap (c.r + 1)) 1073741824, false⟩
theorem rep38 (s : Sq) (i : Nat) (now : Int) (c : Ck) (hn : s.fl[i]? = some c) (t : List UInt8) (k1 : FnOK Tryz.prog 83 [.d (sqD { s with fl := s.fl.set i (again c now) }), .d (ckD (again c now))] [] (.d (.str t)) []) : FnOK Tryz.prog 82 ([.agg [.d (.int .i64 s.b), .d (.str s.d), .d (.int .i64 s.n), .own 0 5, .d (.sl (s.cm.map ivD))], .d (.int .i64 i), .d (.int .i64 now)]) ([.row 5 (s.fl.map ckD)]) (.tup [.agg [.d (.int .i64 s.b), .d (.str s.d), .d (.int .i64 s.n), .own 0 5, .d (.sl (s.cm.map ivD))], .d (ckD (again c now)), .d (.str t)]) ([.row 5 ((s.fl.set i (again c now)).map ckD)]) := by
 refine fnOK_wp (p := ((0 : Int) ≤ (↑i : Int) ∧ (↑i : Int) < (↑(List.map ckD s.fl).length : Int)) ∧ (List.map ckD s.fl ≠ []) ∧ ((↑i : Int).toNat < (List.map ckD s.fl).length) ∧ (5 = 5) ∧ ((List.map ckD s.fl)[(↑i : Int).toNat]? = some (ckD c)) ∧ ((List.map ckD s.fl).set (↑i : Int).toNat (D.agg (List.take 2 [D.int .i64 c.f, D.int .i64 c.t, D.int .i64 c.s, D.int .i64 c.r, D.bool c.l] ++ [D.int .i64 now] ++ List.drop (2 + [D.int .i64 now].length) [D.int .i64 c.f, D.int .i64 c.t, D.int .i64 c.s, D.int .i64 c.r, D.bool c.l])) ≠ []) ∧ ((↑i : Int).toNat < ((List.map ckD s.fl).set (↑i : Int).toNat (D.agg (List.take 2 [D.int .i64 c.f, D.int .i64 c.t, D.int .i64 c.s, D.int .i64 c.r, D.bool c.l] ++ [D.int .i64 now] ++ List.drop (2 + [D.int .i64 now].length) [D.int .i64 c.f, D.int .i64 c.t, D.int .i64 c.s, D.int .i64 c.r, D.bool c.l]))).length) ∧ (5 = 5) ∧ (((List.map ckD s.fl).set (↑i : Int).toNat (D.agg (List.take 2 [D.int .i64 c.f, D.int .i64 c.t, D.int .i64 c.s, D.int .i64 c.r, D.bool c.l] ++ [D.int .i64 now] ++ List.drop (2 + [D.int .i64 now].length) [D.int .i64 c.f, D.int .i64 c.t, D.int .i64 c.s, D.int .i64 c.r, D.bool c.l])))[(↑i : Int).toNat]? = some (D.agg [D.int .i64 c.f, D.int .i64 c.t, D.int .i64 now, D.int .i64 c.r, D.bool c.l])) ∧ (((List.map ckD s.fl).set (↑i : Int).toNat (D.agg (List.take 2 [D.int .i64 c.f, D.int .i64 c.t, D.int .i64 c.s, D.int .i64 c.r, D.bool c.l] ++ [D.int .i64 now] ++ List.drop (2 + [D.int .i64 now].length) [D.int .i64 c.f, D.int .i64 c.t, D.int .i64 c.s, D.int .i64 c.r, D.bool c.l]))).set (↑i : Int).toNat (D.agg (List.take 4 [D.int .i64 c.f, D.int .i64 c.t, D.int .i64 now, D.int .i64 c.r, D.bool c.l] ++ [D.bool false] ++ List.drop 5 [D.int .i64 c.f, D.int .i64 c.t, D.int .i64 now, D.int .i64 c.r, D.bool c.l])) ≠ []) ∧ ((↑i : Int).toNat < (((List.map ckD s.fl).set (↑i : Int).toNat (D.agg (List.take 2 [D.int .i64 c.f, D.int .i64 c.t, D.int .i64 c.s, D.int .i64 c.r, D.bool c.l] ++ [D.int .i64 now] ++ List.drop (2 + [D.int .i64 now].length) [D.int .i64 c.f, D.int .i64 c.t, D.int .i64 c.s, D.int .i64 c.r, D.bool c.l]))).set (↑i : Int).toNat (D.agg (List.take 4 [D.int .i64 c.f, D.int .i64 c.t, D.int .i64 now, D.int .i64 c.r, D.bool c.l] ++ [D.bool false] ++ List.drop 5 [D.int .i64 c.f, D.int .i64 c.t, D.int .i64 now, D.int .i64 c.r, D.bool c.l]))).length) ∧ (5 = 5) ∧ ((((List.map ckD s.fl).set (↑i : Int).toNat (D.agg (List.take 2 [D.int .i64 c.f, D.int .i64 c.t, D.int .i64 c.s, D.int .i64 c.r, D.bool c.l] ++ [D.int .i64 now] ++ List.drop (2 + [D.int .i64 now].length) [D.int .i64 c.f, D.int .i64 c.t, D.int .i64 c.s, D.int .i64 c.r, D.bool c.l]))).set (↑i : Int).toNat (D.agg (List.take 4 [D.int .i64 c.f, D.int .i64 c.t, D.int .i64 now, D.int .i64 c.r, D.bool c.l] ++ [D.bool false] ++ List.drop 5 [D.int .i64 c.f, D.int .i64 c.t, D.int .i64 now, D.int .i64 c.r, D.bool c.l])))[(↑i : Int).toNat]? = some (D.agg [D.int .i64 c.f, D.int .i64 c.t, D.int .i64 now, D.int .i64 c.r, D.bool false])) ∧ (((List.map ckD s.fl).set (↑i : Int).toNat (D.agg (List.take 2 [D.int .i64 c.f, D.int .i64 c.t, D.int .i64 c.s, D.int .i64 c.r, D.bool c.l] ++ [D.int .i64 now] ++ List.drop (2 + [D.int .i64 now].length) [D.int .i64 c.f, D.int .i64 c.t, D.int .i64 c.s, D.int .i64 c.r, D.bool c.l]))).set (↑i : Int).toNat (D.agg (List.take 4 [D.int .i64 c.f, D.int .i64 c.t, D.int .i64 now, D.int .i64 c.r, D.bool c.l] ++ [D.bool false] ++ List.drop 5 [D.int .i64 c.f, D.int .i64 c.t, D.int .i64 now, D.int .i64 c.r, D.bool c.l])) ≠ []) ∧ ((↑i : Int).toNat < (((List.map ckD s.fl).set (↑i : Int).toNat (D.agg (List.take 2 [D.int .i64 c.f, D.int .i64 c.t, D.int .i64 c.s, D.int .i64 c.r, D.bool c.l] ++ [D.int .i64 now] ++ List.drop (2 + [D.int .i64 now].length) [D.int .i64 c.f, D.int .i64 c.t, D.int .i64 c.s, D.int .i64 c.r, D.bool c.l]))).set (↑i : Int).toNat (D.agg (List.take 4 [D.int .i64 c.f, D.int .i64 c.t, D.int .i64 now, D.int .i64 c.r, D.bool c.l] ++ [D.bool false] ++ List.drop 5 [D.int .i64 c.f, D.int .i64 c.t, D.int .i64 now, D.int .i64 c.r, D.bool c.l]))).length) ∧ (5 = 5) ∧ ((((List.map ckD s.fl).set (↑i : Int).toNat (D.agg (List.take 2 [D.int .i64 c.f, D.int .i64 c.t, D.int .i64 c.s, D.int .i64 c.r, D.bool c.l] ++ [D.int .i64 now] ++ List.drop (2 + [D.int .i64 now].length) [D.int .i64 c.f, D.int .i64 c.t, D.int .i64 c.s, D.int .i64 c.r, D.bool c.l]))).set (↑i : Int).toNat (D.agg (List.take 4 [D.int .i64 c.f, D.int .i64 c.t, D.int .i64 now, D.int .i64 c.r, D.bool c.l] ++ [D.bool false] ++ List.drop 5 [D.int .i64 c.f, D.int .i64 c.t, D.int .i64 now, D.int .i64 c.r, D.bool c.l])))[(↑i : Int).toNat]? = some (D.agg [D.int .i64 c.f, D.int .i64 c.t, D.int .i64 now, D.int .i64 c.r, D.bool false])) ∧ ((((List.map ckD s.fl).set (↑i : Int).toNat (D.agg (List.take 2 [D.int .i64 c.f, D.int .i64 c.t, D.int .i64 c.s, D.int .i64 c.r, D.bool c.l] ++ [D.int .i64 now] ++ List.drop (2 + [D.int .i64 now].length) [D.int .i64 c.f, D.int .i64 c.t, D.int .i64 c.s, D.int .i64 c.r, D.bool c.l]))).set (↑i : Int).toNat (D.agg (List.take 4 [D.int .i64 c.f, D.int .i64 c.t, D.int .i64 now, D.int .i64 c.r, D.bool c.l] ++ [D.bool false] ++ List.drop 5 [D.int .i64 c.f, D.int .i64 c.t, D.int .i64 now, D.int .i64 c.r, D.bool c.l]))).set (↑i : Int).toNat (D.agg (List.take 3 [D.int .i64 c.f, D.int .i64 c.t, D.int .i64 now, D.int .i64 c.r, D.bool false] ++ [D.int .i64 (min (IntKind.i64.wrap (c.r + (1 : Int))) (1073741824 : Int))] ++ List.drop (3 + [D.int .i64 (min (IntKind.i64.wrap (c.r + (1 : Int))) (1073741824 : Int))].length) [D.int .i64 c.f, D.int .i64 c.t, D.int .i64 now, D.int .i64 c.r, D.bool false])) ≠ []) ∧ (5 = 5) ∧ (((((List.map ckD s.fl).set (↑i : Int).toNat (D.agg (List.take 2 [D.int .i64 c.f, D.int .i64 c.t, D.int .i64 c.s, D.int .i64 c.r, D.bool c.l] ++ [D.int .i64 now] ++ List.drop (2 + [D.int .i64 now].length) [D.int .i64 c.f, D.int .i64 c.t, D.int .i64 c.s, D.int .i64 c.r, D.bool c.l]))).set (↑i : Int).toNat (D.agg (List.take 4 [D.int .i64 c.f, D.int .i64 c.t, D.int .i64 now, D.int .i64 c.r, D.bool c.l] ++ [D.bool false] ++ List.drop 5 [D.int .i64 c.f, D.int .i64 c.t, D.int .i64 now, D.int .i64 c.r, D.bool c.l]))).set (↑i : Int).toNat (D.agg (List.take 3 [D.int .i64 c.f, D.int .i64 c.t, D.int .i64 now, D.int .i64 c.r, D.bool false] ++ [D.int .i64 (min (IntKind.i64.wrap (c.r + (1 : Int))) (1073741824 : Int))] ++ List.drop (3 + [D.int .i64 (min (IntKind.i64.wrap (c.r + (1 : Int))) (1073741824 : Int))].length) [D.int .i64 c.f, D.int .i64 c.t, D.int .i64 now, D.int .i64 c.r, D.bool false])))[(↑i : Int).toNat]? = some (D.agg [D.int .i64 (again c now).f, D.int .i64 (again c now).t, D.int .i64 (again c now).s, D.int .i64 (again c now).r, D.bool false])) ∧ ((((List.map ckD s.fl).set (↑i : Int).toNat (D.agg (List.take 2 [D.int .i64 c.f, D.int .i64 c.t, D.int .i64 c.s, D.int .i64 c.r, D.bool c.l] ++ [D.int .i64 now] ++ List.drop (2 + [D.int .i64 now].length) [D.int .i64 c.f, D.int .i64 c.t, D.int .i64 c.s, D.int .i64 c.r, D.bool c.l]))).set (↑i : Int).toNat (D.agg (List.take 4 [D.int .i64 c.f, D.int .i64 c.t, D.int .i64 now, D.int .i64 c.r, D.bool c.l] ++ [D.bool false] ++ List.drop 5 [D.int .i64 c.f, D.int .i64 c.t, D.int .i64 now, D.int .i64 c.r, D.bool c.l]))).set (↑i : Int).toNat (D.agg (List.take 3 [D.int .i64 c.f, D.int .i64 c.t, D.int .i64 now, D.int .i64 c.r, D.bool false] ++ [D.int .i64 (min (IntKind.i64.wrap (c.r + (1 : Int))) (1073741824 : Int))] ++ List.drop (3 + [D.int .i64 (min (IntKind.i64.wrap (c.r + (1 : Int))) (1073741824 : Int))].length) [D.int .i64 c.f, D.int .i64 c.t, D.int .i64 now, D.int .i64 c.r, D.bool false])) ≠ []) ∧ (5 = 5) ∧ (((((List.map ckD s.fl).set (↑i : Int).toNat (D.agg (List.take 2 [D.int .i64 c.f, D.int .i64 c.t, D.int .i64 c.s, D.int .i64 c.r, D.bool c.l] ++ [D.int .i64 now] ++ List.drop (2 + [D.int .i64 now].length) [D.int .i64 c.f, D.int .i64 c.t, D.int .i64 c.s, D.int .i64 c.r, D.bool c.l]))).set (↑i : Int).toNat (D.agg (List.take 4 [D.int .i64 c.f, D.int .i64 c.t, D.int .i64 now, D.int .i64 c.r, D.bool c.l] ++ [D.bool false] ++ List.drop 5 [D.int .i64 c.f, D.int .i64 c.t, D.int .i64 now, D.int .i64 c.r, D.bool c.l]))).set (↑i : Int).toNat (D.agg (List.take 3 [D.int .i64 c.f, D.int .i64 c.t, D.int .i64 now, D.int .i64 c.r, D.bool false] ++ [D.int .i64 (min (IntKind.i64.wrap (c.r + (1 : Int))) (1073741824 : Int))] ++ List.drop (3 + [D.int .i64 (min (IntKind.i64.wrap (c.r + (1 : Int))) (1073741824 : Int))].length) [D.int .i64 c.f, D.int .i64 c.t, D.int .i64 now, D.int .i64 c.r, D.bool false])))[(↑i : Int).toNat]? = some (D.agg [D.int .i64 (again c now).f, D.int .i64 (again c now).t, D.int .i64 (again c now).s, D.int .i64 (again c now).r, D.bool false])) ∧ (FnOK Tryz.prog 83 [AV.d (.agg [D.int .i64 s.b, D.str s.d, D.int .i64 s.n, D.sl ((((List.map ckD s.fl).set (↑i : Int).toNat (D.agg (List.take 2 [D.int .i64 c.f, D.int .i64 c.t, D.int .i64 c.s, D.int .i64 c.r, D.bool c.l] ++ [D.int .i64 now] ++ List.drop (2 + [D.int .i64 now].length) [D.int .i64 c.f, D.int .i64 c.t, D.int .i64 c.s, D.int .i64 c.r, D.bool c.l]))).set (↑i : Int).toNat (D.agg (List.take 4 [D.int .i64 c.f, D.int .i64 c.t, D.int .i64 now, D.int .i64 c.r, D.bool c.l] ++ [D.bool false] ++ List.drop 5 [D.int .i64 c.f, D.int .i64 c.t, D.int .i64 now, D.int .i64 c.r, D.bool c.l]))).set (↑i : Int).toNat (D.agg (List.take 3 [D.int .i64 c.f, D.int .i64 c.t, D.int .i64 now, D.int .i64 c.r, D.bool false] ++ [D.int .i64 (min (IntKind.i64.wrap (c.r + (1 : Int))) (1073741824 : Int))] ++ List.drop (3 + [D.int .i64 (min (IntKind.i64.wrap (c.r + (1 : Int))) (1073741824 : Int))].length) [D.int .i64 c.f, D.int .i64 c.t, D.int .i64 now, D.int .i64 c.r, D.bool false]))), D.sl (List.map ivD s.cm)]), AV.d (.agg [D.int .i64 (again c now).f, D.int .i64 (again c now).t, D.int .i64 (again c now).s, D.int .i64 (again c now).r, D.bool false])] [] (vS t) []) ∧ (rf (AV.tup [AV.agg [vI s.b, vS s.d, vI s.n, AV.own 0 5, vL (List.map ivD s.cm)], AV.d (.agg [D.int .i64 (again c now).f, D.int .i64 (again c now).t, D.int .i64 (again c now).s, D.int .i64 (again c now).r, D.bool false]), vS t])) ∧ (Ob.row 5 ((((List.map ckD s.fl).set (↑i : Int).toNat (D.agg (List.take 2 [D.int .i64 c.f, D.int .i64 c.t, D.int .i64 c.s, D.int .i64 c.r, D.bool c.l] ++ [D.int .i64 now] ++ List.drop (2 + [D.int .i64 now].length) [D.int .i64 c.f, D.int .i64 c.t, D.int .i64 c.s, D.int .i64 c.r, D.bool c.l]))).set (↑i : Int).toNat (D.agg (List.take 4 [D.int .i64 c.f, D.int .i64 c.t, D.int .i64 now, D.int .i64 c.r, D.bool c.l] ++ [D.bool false] ++ List.drop 5 [D.int .i64 c.f, D.int .i64 c.t, D.int .i64 now, D.int .i64 c.r, D.bool c.l]))).set (↑i : Int).toNat (D.agg (List.take 3 [D.int .i64 c.f, D.int .i64 c.t, D.int .i64 now, D.int .i64 c.r, D.bool false] ++ [D.int .i64 (min (IntKind.i64.wrap (c.r + (1 : Int))) (1073741824 : Int))] ++ List.drop (3 + [D.int .i64 (min (IntKind.i64.wrap (c.r + (1 : Int))) (1073741824 : Int))].length) [D.int .i64 c.f, D.int .i64 c.t, D.int .i64 now, D.int .i64 c.r, D.bool false]))) = Ob.row 5 (List.map ckD (s.fl.set i (again c now)))) ∧ True) (h := {els := [(18, .el (ckD c)), (20, .el (ckD { c with s := now })), (24, .el (ckD { c with s := now, l := false })), (29, .el (ckD { c with s := now, l := false })), (32, .el (ckD (again c now))), (36, .el (ckD (again c now)))], H := [(4, [(8, .call [] (.d (.str t)) [])])]}) (subs := []) (ws := []) (ρ := []) (by kernel_rfl) ?_
 have hj := get_lt hn
 have hne : s.fl.map ckD ≠ [] := fun e => by
  have := congrArg List.length e
  rw [List.length_map, List.length_nil] at this
  omega
 have hlt : i < (s.fl.map ckD).length := by rw [List.length_map]; exact hj
 have h0 : (s.fl.map ckD)[i]? = some (ckD c) := by rw [List.getElem?_map, hn]; rfl
 have hD : (s.fl.map ckD).set i (ckD (again c now)) = (s.fl.set i (again c now)).map ckD := (List.map_set ..).symm
 have hk : FnOK Tryz.prog 83 [.d (.agg [.int .i64 s.b, .str s.d, .int .i64 s.n, .sl ((s.fl.map ckD).set i (ckD (again c now))), .sl (s.cm.map ivD)]), .d (ckD (again c now))] [] (.d (.str t)) [] := by rw [hD]; exact k1
 have hg : ∀ x : D, ((s.fl.map ckD).set i x)[i]? = some x := fun x => by rw [List.getElem?_set, if_pos rfl, if_pos hlt]
 have hn' : ∀ x : D, (s.fl.map ckD).set i x ≠ [] := fun x => by simpa using hne
 have hl' : ∀ x : D, i < ((s.fl.map ckD).set i x).length := fun x => by rw [List.length_set]; exact hlt
 simp only [Int.toNat_natCast, List.set_set]
 repeat' (with_reducible first|exact ⟨⟩|apply And.intro|(first|apply zA|apply zB|apply zC|apply zD|apply zE|apply zF|apply zG)<;>intro)
 all_goals first | exact hk | exact h0 | exact hg _ | exact hn' _ | exact hl' _ | exact hne | exact hlt | rfl | omega | exact hD | exact congrArg (Ob.row 5) hD | skip
theorem repeat38 (s : Sq) (i : Nat) (now : Int) (c : Ck) (hn : s.fl[i]? = some c) (x y : Int) (hx : IntKind.i64.wrap (c.f - s.b) = x) (hy : IntKind.i64.wrap (c.t - s.b) = y) (h0 : 0 ≤ x) (h1 : x ≤ y) (h2 : y ≤ s.d.length) :
  FnOK Tryz.prog 82 [.agg [.d (.int .i64 s.b), .d (.str s.d), .d (.int .i64 s.n), .own 0 5, .d (.sl (s.cm.map ivD))], .d (.int .i64 i), .d (.int .i64 now)] [.row 5 (s.fl.map ckD)] (.tup [.agg [.d (.int .i64 s.b), .d (.str s.d), .d (.int .i64 s.n), .own 0 5, .d (.sl (s.cm.map ivD))], .d (ckD (again c now)), .d (.str ((s.d.drop x.toNat).take (y.toNat - x.toNat)))]) [.row 5 ((s.fl.set i (again c now)).map ckD)] :=
 rep38 s i now c hn _ (text39 { s with fl := s.fl.set i (again c now) } (again c now) x y hx hy h0 h1 h2)
end Go.Proofs.YtalpfhpeaaocmaaGreat.C11
end
section
namespace Go.Proofs.YtalpfhpeaaocmaaGreat.C11
open Sx Go.RowKit C06
def ck0 : Ck := ⟨0, 0, 0, 0, false⟩
def bytesOf (s : Sq) (c : Ck) : List UInt8 := (s.d.drop (c.f - s.b).toNat).take ((c.t - s.b).toNat - (c.f - s.b).toNat)
def lostB (c : Ck) : Bool := c.l
/-- How much is sent anew. -/
def pkN (s : Sq) (win limit : Int) : Int := min (min (min (s.b + (s.d.length : Int) - s.n) 48) (win - rFlight s)) (limit - s.n)
def pkC (s : Sq) (now win limit : Int) : Ck := ⟨s.n, s.n + pkN s win limit, now, 1, false⟩
def rPick (s : Sq) (now win limit : Int) : Sq × Ck × List UInt8 :=
 if sChk s ≠ 0 ∨ tickB now = false then (s, ck0, [])
 else match s.fl.findIdx? lostB with
 | some i => match s.fl[i]? with
  | some c => if rFlight s = 0 ∨ rFlight s + (c.t - c.f) ≤ win then ({ s with fl := s.fl.set i (again c now) }, again c now, bytesOf s c) else (s, ck0, [])
  | none => (s, ck0, [])
 | none => if s.b + (s.d.length : Int) - s.n = 0 ∨ win ≤ rFlight s ∨ limit ≤ s.n then (s, ck0, [])
  else ({ s with n := s.n + pkN s win limit, fl := s.fl ++ [pkC s now win limit] }, pkC s now win limit, bytesOf s (pkC s now win limit))
def oAV (s : Sq) : AV := .agg [.d (.int .i64 s.b), .d (.str s.d), .d (.int .i64 s.n), .own 0 5, .d (.sl (s.cm.map ivD))]
theorem pick12a (s : Sq) (now win limit : Int) (k1 : FnOK Tryz.prog 52 [.d (sqD s)] [] (oAV s) [.row 5 (s.fl.map ckD)]) (k2 : FnOK Tryz.prog 77 [.d (.int .i64 now)] [] (.d (.bool (tickB now))) []) (ht : tickB now = false) (k3 k4 k5 k6 hm he hq : True) : FnOK Tryz.prog 54 ([.d (sqD s), .d (.int .i64 now), .d (.int .i64 win), .d (.int .i64 limit)]) ([]) (.tup [.d (sqD s), .d (ckD ck0), .d (.str [])]) ([]) := by
 refine fnOK_wp (p := (FnOK Tryz.prog 52 [AV.d (sqD s)] [] (AV.agg [vI s.b, vS s.d, vI s.n, AV.own 0 5, vL (List.map ivD s.cm)]) [Ob.row 5 (List.map ckD s.fl)]) ∧ (FnOK Tryz.prog 77 [vI now] [] (vB (tickB now)) []) ∧ ((D.bool !tickB now) = D.bool true) ∧ (rf (AV.tup [AV.d (sqD s), AV.d (.agg [D.int .i64 0, D.int .i64 0, D.int .i64 0, D.int .i64 0, D.bool false]), vS []])) ∧ True) (h := {H := [(1, [(1, .call [] (oAV s) [.row 5 (s.fl.map ckD)])]), (2, [(1, .call [] (.d (.bool (tickB now))) []), (3, .val (.bool true))])]}) (subs := []) (ws := []) (ρ := []) (by kernel_rfl) ?_
 repeat' (with_reducible first|exact ⟨⟩|apply And.intro|(first|apply zA|apply zB|apply zC|apply zD|apply zE|apply zF|apply zG)<;>intro)
 all_goals first | exact k1 | exact k2 | exact k3 | exact k4 | exact k5 | exact k6 | rfl | omega | exact congrArg (D.int .i64) hm | exact dyes (by omega) | exact dno (by omega) | (refine congrArg D.bool ?_; simp [ht]; done) | (refine congrArg D.bool ?_; simp [he]; done) | (refine congrArg D.bool ?_; exact hq) | skip
theorem pick12b (s : Sq) (now win limit : Int) (k1 : FnOK Tryz.prog 52 [.d (sqD s)] [] (oAV s) [.row 5 (s.fl.map ckD)]) (k2 : FnOK Tryz.prog 77 [.d (.int .i64 now)] [] (.d (.bool (tickB now))) []) (ht : tickB now = true) (e : Int) (k3 : FnOK Tryz.prog 51 [.d (sqD s)] [] (.d (.int .i64 e)) []) (he : e ≠ 0) (k4 k5 k6 hm hq : True) : FnOK Tryz.prog 54 ([.d (sqD s), .d (.int .i64 now), .d (.int .i64 win), .d (.int .i64 limit)]) ([]) (.tup [.d (sqD s), .d (ckD ck0), .d (.str [])]) ([]) := by
 refine fnOK_wp (p := (FnOK Tryz.prog 52 [AV.d (sqD s)] [] (AV.agg [vI s.b, vS s.d, vI s.n, AV.own 0 5, vL (List.map ivD s.cm)]) [Ob.row 5 (List.map ckD s.fl)]) ∧ (FnOK Tryz.prog 77 [vI now] [] (vB (tickB now)) []) ∧ ((D.bool !tickB now) = D.bool false) ∧ (FnOK Tryz.prog 51 [AV.d (sqD s)] [] (vI e) []) ∧ (D.bool (e != (0 : Int)) = D.bool true) ∧ (rf (AV.tup [AV.d (sqD s), AV.d (.agg [D.int .i64 0, D.int .i64 0, D.int .i64 0, D.int .i64 0, D.bool false]), vS []])) ∧ True) (h := {H := [(1, [(1, .call [] (oAV s) [.row 5 (s.fl.map ckD)])]), (2, [(1, .call [] (.d (.bool (tickB now))) []), (3, .val (.bool false)), (5, .call [] (.d (.int .i64 e)) []), (7, .val (.bool true))])]}) (subs := []) (ws := []) (ρ := []) (by kernel_rfl) ?_
 repeat' (with_reducible first|exact ⟨⟩|apply And.intro|(first|apply zA|apply zB|apply zC|apply zD|apply zE|apply zF|apply zG)<;>intro)
 all_goals first | exact k1 | exact k2 | exact k3 | exact k4 | exact k5 | exact k6 | rfl | omega | exact congrArg (D.int .i64) hm | exact dyes (by omega) | exact dno (by omega) | (refine congrArg D.bool ?_; simp [ht]; done) | (refine congrArg D.bool ?_; simp [he]; done) | (refine congrArg D.bool ?_; exact hq) | skip
theorem pick12c (s : Sq) (now win limit : Int) (k1 : FnOK Tryz.prog 52 [.d (sqD s)] [] (oAV s) [.row 5 (s.fl.map ckD)]) (k2 : FnOK Tryz.prog 77 [.d (.int .i64 now)] [] (.d (.bool (tickB now))) []) (ht : tickB now = true) (e : Int) (k3 : FnOK Tryz.prog 51 [.d (sqD s)] [] (.d (.int .i64 e)) []) (he : e = 0) (f : Int) (k4 : FnOK Tryz.prog 78 [.d (sqD s)] [] (.d (.int .i64 f)) []) (i : Nat) (c : Ck) (hn : s.fl[i]? = some c) (k5 : FnOK Tryz.prog 79 [.d (.sl (s.fl.map ckD)), .fn 80 []] [] (.d (.int .i64 i)) []) (hw : ¬(f = 0 ∨ f + (c.t - c.f) ≤ win)) (hz : cSz c = c.t - c.f) (hf : IntKind.i64.wrap (f + (c.t - c.f)) = f + (c.t - c.f)) (k6 hm hq : True) : FnOK Tryz.prog 54 ([.d (sqD s), .d (.int .i64 now), .d (.int .i64 win), .d (.int .i64 limit)]) ([]) (.tup [.d (sqD s), .d (ckD ck0), .d (.str [])]) ([]) := by
 refine fnOK_wp (p := (FnOK Tryz.prog 52 [AV.d (sqD s)] [] (AV.agg [vI s.b, vS s.d, vI s.n, AV.own 0 5, vL (List.map ivD s.cm)]) [Ob.row 5 (List.map ckD s.fl)]) ∧ (FnOK Tryz.prog 77 [vI now] [] (vB (tickB now)) []) ∧ ((D.bool !tickB now) = D.bool false) ∧ (FnOK Tryz.prog 51 [AV.d (sqD s)] [] (vI e) []) ∧ (D.bool (e != (0 : Int)) = D.bool false) ∧ (FnOK Tryz.prog 78 [AV.d (sqD s)] [] (vI f) []) ∧ (FnOK Tryz.prog 79 [vL (List.map ckD s.fl), AV.fn 80 []] [] (vI (↑i : Int)) []) ∧ (rf (D.bool true)) ∧ (D.bool (f == (0 : Int)) = D.bool false) ∧ ((0 : Int) ≤ (↑i : Int) ∧ (↑i : Int) < (↑(List.map ckD s.fl).length : Int)) ∧ (5 = 5) ∧ ((List.map ckD s.fl)[(↑i : Int).toNat]? = some (ckD c)) ∧ (FnOK Tryz.prog 81 [AV.d (ckD c)] [] (vI (cSz c)) []) ∧ (D.bool (decide (IntKind.i64.wrap (f + cSz c) ≤ win)) = D.bool false) ∧ (rf (AV.tup [AV.d (sqD s), AV.d (.agg [D.int .i64 0, D.int .i64 0, D.int .i64 0, D.int .i64 0, D.bool false]), vS []])) ∧ True) (h := {els := [(43, .el (ckD c))], H := [(1, [(1, .call [] (oAV s) [.row 5 (s.fl.map ckD)])]), (2, [(1, .call [] (.d (.bool (tickB now))) []), (3, .val (.bool false)), (5, .call [] (.d (.int .i64 e)) []), (7, .val (.bool false))]), (4, [(1, .call [] (.d (.int .i64 f)) [])]), (5, [(2, .call [] (.d (.int .i64 i)) [])]), (6, [(1, .val (.bool true))]), (7, [(2, .val (.bool false)), (9, .call [] (.d (.int .i64 (cSz c))) []), (13, .val (.bool false))])]}) (subs := []) (ws := []) (ρ := []) (by kernel_rfl) ?_
 have k7 := size37 c trivial trivial
 have hj := get_lt hn
 simp only [hz] at *
 repeat' (with_reducible first|exact ⟨⟩|apply And.intro|(first|apply zA|apply zB|apply zC|apply zD|apply zE|apply zF|apply zG)<;>intro)
 all_goals first | exact k1 | exact k2 | exact k3 | exact k4 | exact k5 | exact k7 | exact el_map hn rfl | rfl | omega | (rw [hf]; exact dno (by omega)) | exact dyes (by omega) | exact dno (by omega) | (refine congrArg D.bool ?_; simp [ht]; done) | (refine congrArg D.bool ?_; simp [he]; done) | (refine congrArg D.bool ?_; rw [beq_eq_false_iff_ne]; omega) | (simp; omega) | skip
theorem pick12d (s : Sq) (now win limit : Int) (k1 : FnOK Tryz.prog 52 [.d (sqD s)] [] (oAV s) [.row 5 (s.fl.map ckD)]) (k2 : FnOK Tryz.prog 77 [.d (.int .i64 now)] [] (.d (.bool (tickB now))) []) (ht : tickB now = true) (e : Int) (k3 : FnOK Tryz.prog 51 [.d (sqD s)] [] (.d (.int .i64 e)) []) (he : e = 0) (f : Int) (k4 : FnOK Tryz.prog 78 [.d (sqD s)] [] (.d (.int .i64 f)) []) (i : Nat) (c : Ck) (hn : s.fl[i]? = some c) (k5 : FnOK Tryz.prog 79 [.d (.sl (s.fl.map ckD)), .fn 80 []] [] (.d (.int .i64 i)) []) (q : Bool) (hw : f = 0 ∨ f + (c.t - c.f) ≤ win) (hz : cSz c = c.t - c.f) (hf : IntKind.i64.wrap (f + (c.t - c.f)) = f + (c.t - c.f)) (s' : Sq) (c' : Ck) (t : List UInt8) (k6 : FnOK Tryz.prog 82 [oAV s, .d (.int .i64 i), .d (.int .i64 now)] [.row 5 (s.fl.map ckD)] (.tup [oAV s', .d (ckD c'), .d (.str t)]) [.row 5 (s'.fl.map ckD)]) : FnOK Tryz.prog 54 ([.d (sqD s), .d (.int .i64 now), .d (.int .i64 win), .d (.int .i64 limit)]) ([]) (.tup [.d (sqD s'), .d (ckD c'), .d (.str t)]) ([]) := by
 refine fnOK_wp (p := (FnOK Tryz.prog 52 [AV.d (sqD s)] [] (AV.agg [vI s.b, vS s.d, vI s.n, AV.own 0 5, vL (List.map ivD s.cm)]) [Ob.row 5 (List.map ckD s.fl)]) ∧ (FnOK Tryz.prog 77 [vI now] [] (vB (tickB now)) []) ∧ ((D.bool !tickB now) = D.bool false) ∧ (FnOK Tryz.prog 51 [AV.d (sqD s)] [] (vI e) []) ∧ (D.bool (e != (0 : Int)) = D.bool false) ∧ (FnOK Tryz.prog 78 [AV.d (sqD s)] [] (vI f) []) ∧ (FnOK Tryz.prog 79 [vL (List.map ckD s.fl), AV.fn 80 []] [] (vI (↑i : Int)) []) ∧ (rf (D.bool true)) ∧ (condP (f == (0 : Int)) ((D.bool (f == (0 : Int)) = D.bool true) ∧ (rf (D.bool true)) ∧ (FnOK Tryz.prog 82 [AV.agg [vI s.b, vS s.d, vI s.n, AV.own 0 5, vL (List.map ivD s.cm)], vI (↑i : Int), vI now] [Ob.row 5 (List.map ckD s.fl)] (AV.tup [AV.agg [vI s'.b, vS s'.d, vI s'.n, AV.own 0 5, vL (List.map ivD s'.cm)], AV.d (ckD c'), vS t]) [Ob.row 5 (List.map ckD s'.fl)]) ∧ (rf (AV.tup [AV.d (sqD s'), AV.d (ckD c'), vS t])) ∧ True) ((D.bool (f == (0 : Int)) = D.bool false) ∧ ((0 : Int) ≤ (↑i : Int) ∧ (↑i : Int) < (↑(List.map ckD s.fl).length : Int)) ∧ (5 = 5) ∧ ((List.map ckD s.fl)[(↑i : Int).toNat]? = some (ckD c)) ∧ (FnOK Tryz.prog 81 [AV.d (ckD c)] [] (vI (cSz c)) []) ∧ (D.bool (decide (IntKind.i64.wrap (f + cSz c) ≤ win)) = D.bool true) ∧ (FnOK Tryz.prog 82 [AV.agg [vI s.b, vS s.d, vI s.n, AV.own 0 5, vL (List.map ivD s.cm)], vI (↑i : Int), vI now] [Ob.row 5 (List.map ckD s.fl)] (AV.tup [AV.agg [vI s'.b, vS s'.d, vI s'.n, AV.own 0 5, vL (List.map ivD s'.cm)], AV.d (ckD c'), vS t]) [Ob.row 5 (List.map ckD s'.fl)]) ∧ (rf (AV.tup [AV.d (sqD s'), AV.d (ckD c'), vS t])) ∧ True))) (h := {els := [(43, .el (ckD c))], H := [(1, [(1, .call [] (oAV s) [.row 5 (s.fl.map ckD)])]), (2, [(1, .call [] (.d (.bool (tickB now))) []), (3, .val (.bool false)), (5, .call [] (.d (.int .i64 e)) []), (7, .val (.bool false))]), (4, [(1, .call [] (.d (.int .i64 f)) [])]), (5, [(2, .call [] (.d (.int .i64 i)) [])]), (6, [(1, .val (.bool true))]), (7, [(9, .call [] (.d (.int .i64 (cSz c))) []), (13, .val (.bool true))]), (8, [(3, .call [1144] (.tup [oAV s', .d (ckD c'), .d (.str t)]) [.row 5 (s'.fl.map ckD)])])]}) (subs := []) (ws := []) (ρ := []) (by kernel_rfl) ?_
 have k7 := size37 c trivial trivial
 have hj := get_lt hn
 simp only [hz] at *
 repeat' (with_reducible first|exact ⟨⟩|apply And.intro|(first|apply zA|apply zB|apply zC|apply zD|apply zE|apply zF|apply zG)<;>intro)
 all_goals first | exact k1 | exact k2 | exact k3 | exact k4 | exact k5 | exact k6 | exact k7 | exact el_map hn rfl | rfl | omega | (rw [hf]; exact dyes (by omega)) | exact dyes (by omega) | exact dno (by omega) | (refine congrArg D.bool ?_; simp [ht]; done) | (refine congrArg D.bool ?_; simp [he]; done) | (refine congrArg D.bool ?_; simp_all; done) | (simp; omega) | (exfalso; simp_all; omega) | skip
theorem pick12e (s : Sq) (now win limit : Int) (k1 : FnOK Tryz.prog 52 [.d (sqD s)] [] (oAV s) [.row 5 (s.fl.map ckD)]) (k2 : FnOK Tryz.prog 77 [.d (.int .i64 now)] [] (.d (.bool (tickB now))) []) (ht : tickB now = true) (e : Int) (k3 : FnOK Tryz.prog 51 [.d (sqD s)] [] (.d (.int .i64 e)) []) (he : e = 0) (f : Int) (k4 : FnOK Tryz.prog 78 [.d (sqD s)] [] (.d (.int .i64 f)) []) (k5 : FnOK Tryz.prog 79 [.d (.sl (s.fl.map ckD)), .fn 80 []] [] (.d (.int .i64 (-1))) []) (l : Int) (hl : IntKind.i64.wrap (IntKind.i64.wrap (s.b + (s.d.length : Int)) - s.n) = l) (hw : l = 0 ∨ win ≤ f ∨ limit ≤ s.n) (k6 hm hq : True) : FnOK Tryz.prog 54 ([.d (sqD s), .d (.int .i64 now), .d (.int .i64 win), .d (.int .i64 limit)]) ([]) (.tup [.d (sqD s), .d (ckD ck0), .d (.str [])]) ([]) := by
 refine fnOK_wp (p := (FnOK Tryz.prog 52 [AV.d (sqD s)] [] (AV.agg [vI s.b, vS s.d, vI s.n, AV.own 0 5, vL (List.map ivD s.cm)]) [Ob.row 5 (List.map ckD s.fl)]) ∧ (FnOK Tryz.prog 77 [vI now] [] (vB (tickB now)) []) ∧ ((D.bool !tickB now) = D.bool false) ∧ (FnOK Tryz.prog 51 [AV.d (sqD s)] [] (vI e) []) ∧ (D.bool (e != (0 : Int)) = D.bool false) ∧ (FnOK Tryz.prog 78 [AV.d (sqD s)] [] (vI f) []) ∧ (FnOK Tryz.prog 79 [vL (List.map ckD s.fl), AV.fn 80 []] [] (vI (-1 : Int)) []) ∧ (D.int .i64 (IntKind.i64.wrap (IntKind.i64.wrap (s.b + (↑s.d.length : Int)) - s.n)) = D.int .i64 l) ∧ (condP (l == (0 : Int)) ((D.bool (l == (0 : Int)) = D.bool true) ∧ (rf (D.bool true)) ∧ (rf (D.bool true)) ∧ (rf (AV.tup [AV.d (sqD s), AV.d (.agg [D.int .i64 0, D.int .i64 0, D.int .i64 0, D.int .i64 0, D.bool false]), vS []])) ∧ True) (condP (decide (win ≤ f)) ((D.bool (l == (0 : Int)) = D.bool false) ∧ (D.bool (decide (win ≤ f)) = D.bool true) ∧ (rf (D.bool true)) ∧ (rf (AV.tup [AV.d (sqD s), AV.d (.agg [D.int .i64 0, D.int .i64 0, D.int .i64 0, D.int .i64 0, D.bool false]), vS []])) ∧ True) ((D.bool (l == (0 : Int)) = D.bool false) ∧ (D.bool (decide (win ≤ f)) = D.bool false) ∧ (D.bool (decide (limit ≤ s.n)) = D.bool true) ∧ (rf (AV.tup [AV.d (sqD s), AV.d (.agg [D.int .i64 0, D.int .i64 0, D.int .i64 0, D.int .i64 0, D.bool false]), vS []])) ∧ True)))) (h := {H := [(1, [(1, .call [] (oAV s) [.row 5 (s.fl.map ckD)])]), (2, [(1, .call [] (.d (.bool (tickB now))) []), (3, .val (.bool false)), (5, .call [] (.d (.int .i64 e)) []), (7, .val (.bool false))]), (4, [(1, .call [] (.d (.int .i64 f)) [])]), (5, [(2, .call [] (.d (.int .i64 (-1))) [])]), (10, [(8, .val (.int .i64 l))]), (11, [(12, .val (.bool true))])]}) (subs := []) (ws := []) (ρ := []) (by kernel_rfl) ?_
 repeat' (with_reducible first|exact ⟨⟩|apply And.intro|(first|apply zA|apply zB|apply zC|apply zD|apply zE|apply zF|apply zG)<;>intro)
 all_goals first | exact k1 | exact k2 | exact k3 | exact k4 | exact k5 | exact congrArg (D.int .i64) hl | rfl | omega | exact dyes (by omega) | exact dno (by omega) | (refine congrArg D.bool ?_; simp [ht]; done) | (refine congrArg D.bool ?_; simp [he]; done) | (exfalso; simp_all; omega) | (exfalso; omega) | skip
theorem pick12f (s : Sq) (now win limit : Int) (k1 : FnOK Tryz.prog 52 [.d (sqD s)] [] (oAV s) [.row 5 (s.fl.map ckD)]) (k2 : FnOK Tryz.prog 77 [.d (.int .i64 now)] [] (.d (.bool (tickB now))) []) (ht : tickB now = true) (e : Int) (k3 : FnOK Tryz.prog 51 [.d (sqD s)] [] (.d (.int .i64 e)) []) (he : e = 0) (f : Int) (k4 : FnOK Tryz.prog 78 [.d (sqD s)] [] (.d (.int .i64 f)) []) (k5 : FnOK Tryz.prog 79 [.d (.sl (s.fl.map ckD)), .fn 80 []] [] (.d (.int .i64 (-1))) []) (l : Int) (hl : IntKind.i64.wrap (IntKind.i64.wrap (s.b + (s.d.length : Int)) - s.n) = l) (hw : ¬(l = 0 ∨ win ≤ f ∨ limit ≤ s.n)) (hfl : s.fl.length < 1000000) (m u : Int) (hm : min (min (min l 48) (IntKind.i64.wrap (win - f))) (IntKind.i64.wrap (limit - s.n)) = m) (hu : IntKind.i64.wrap (s.n + m) = u) (c : Ck) (hc : c = ⟨s.n, u, now, 1, false⟩) (t : List UInt8) (k6 : FnOK Tryz.prog 83 [.d (sqD { s with n := u, fl := s.fl ++ [c] }), .d (ckD c)] [] (.d (.str t)) []) : FnOK Tryz.prog 54 ([.d (sqD s), .d (.int .i64 now), .d (.int .i64 win), .d (.int .i64 limit)]) ([]) (.tup [.d (sqD { s with n := u, fl := s.fl ++ [c] }), .d (ckD c), .d (.str t)]) ([]) := by
 refine fnOK_wp (p := (FnOK Tryz.prog 52 [AV.d (sqD s)] [] (AV.agg [vI s.b, vS s.d, vI s.n, AV.own 0 5, vL (List.map ivD s.cm)]) [Ob.row 5 (List.map ckD s.fl)]) ∧ (FnOK Tryz.prog 77 [vI now] [] (vB (tickB now)) []) ∧ ((D.bool !tickB now) = D.bool false) ∧ (FnOK Tryz.prog 51 [AV.d (sqD s)] [] (vI e) []) ∧ (D.bool (e != (0 : Int)) = D.bool false) ∧ (FnOK Tryz.prog 78 [AV.d (sqD s)] [] (vI f) []) ∧ (FnOK Tryz.prog 79 [vL (List.map ckD s.fl), AV.fn 80 []] [] (vI (-1 : Int)) []) ∧ (D.int .i64 (IntKind.i64.wrap (IntKind.i64.wrap (s.b + (↑s.d.length : Int)) - s.n)) = D.int .i64 l) ∧ (D.bool (l == (0 : Int)) = D.bool false) ∧ (D.bool (decide (win ≤ f)) = D.bool false) ∧ (D.bool (decide (limit ≤ s.n)) = D.bool false) ∧ (D.int .i64 (min (min (min l (48 : Int)) (IntKind.i64.wrap (win - f))) (IntKind.i64.wrap (limit - s.n))) = D.int .i64 m) ∧ (D.int .i64 (IntKind.i64.wrap (s.n + m)) = D.int .i64 u) ∧ (D.agg [D.int .i64 s.n, D.int .i64 u, D.int .i64 now, D.int .i64 1, D.bool false] = ckD c) ∧ (((List.map ckD s.fl).length + [D.agg (List.take 5 [D.int .i64 c.f, D.int .i64 c.t, D.int .i64 c.s, D.int .i64 c.r, D.bool c.l])].length) * 40 ≤ 140737488355328) ∧ (∀ (e : D), e ∈ chunk 5 1 [D.int .i64 c.f, D.int .i64 c.t, D.int .i64 c.s, D.int .i64 c.r, D.bool c.l] → e.cells.length = 5) ∧ (FnOK Tryz.prog 83 [AV.d (.agg [D.int .i64 s.b, D.str s.d, D.int .i64 c.t, D.sl (List.map ckD s.fl ++ [D.agg (List.take 5 [D.int .i64 c.f, D.int .i64 c.t, D.int .i64 c.s, D.int .i64 c.r, D.bool c.l])]), D.sl (List.map ivD s.cm)]), AV.d (ckD c)] [] (vS t) []) ∧ (AV.tup [AV.d (.agg [D.int .i64 s.b, D.str s.d, D.int .i64 c.t, D.sl (List.map ckD s.fl ++ [D.agg (List.take 5 [D.int .i64 c.f, D.int .i64 c.t, D.int .i64 c.s, D.int .i64 c.r, D.bool c.l])]), D.sl (List.map ivD s.cm)]), AV.d (ckD c), vS t] = AV.tup [AV.d (.agg [D.int .i64 s.b, D.str s.d, D.int .i64 u, D.sl (List.map ckD (s.fl ++ [c])), D.sl (List.map ivD s.cm)]), AV.d (ckD c), vS t]) ∧ True) (h := {H := [(1, [(1, .call [] (oAV s) [.row 5 (s.fl.map ckD)])]), (2, [(1, .call [] (.d (.bool (tickB now))) []), (3, .val (.bool false)), (5, .call [] (.d (.int .i64 e)) []), (7, .val (.bool false))]), (4, [(1, .call [] (.d (.int .i64 f)) [])]), (5, [(2, .call [] (.d (.int .i64 (-1))) [])]), (10, [(8, .val (.int .i64 l))]), (11, [(2, .val (.bool false)), (7, .val (.bool false)), (12, .val (.bool false))]), (13, [(8, .val (.int .i64 m))]), (14, [(5, .val (.int .i64 u)), (7, .val (ckD c))]), (17, [(4, .call [] (.d (.str t)) [])])]}) (subs := []) (ws := []) (ρ := []) (by kernel_rfl) ?_
 subst hc
 have hcm : (s.fl ++ [(⟨s.n, u, now, 1, false⟩ : Ck)]).map ckD = s.fl.map ckD ++ [ckD ⟨s.n, u, now, 1, false⟩] := by simp
 have hk : FnOK Tryz.prog 83 [.d (.agg [.int .i64 s.b, .str s.d, .int .i64 u, .sl (s.fl.map ckD ++ [ckD ⟨s.n, u, now, 1, false⟩]), .sl (s.cm.map ivD)]), .d (ckD ⟨s.n, u, now, 1, false⟩)] [] (.d (.str t)) [] := by rw [← hcm]; exact k6
 have hz : AV.tup [.d (.agg [.int .i64 s.b, .str s.d, .int .i64 u, .sl (s.fl.map ckD ++ [ckD ⟨s.n, u, now, 1, false⟩]), .sl (s.cm.map ivD)]), .d (ckD ⟨s.n, u, now, 1, false⟩), .d (.str t)] = AV.tup [.d (sqD { s with n := u, fl := s.fl ++ [⟨s.n, u, now, 1, false⟩] }), .d (ckD ⟨s.n, u, now, 1, false⟩), .d (.str t)] := by rw [← hcm]; rfl
 repeat' (with_reducible first|exact ⟨⟩|apply And.intro|(first|apply zA|apply zB|apply zC|apply zD|apply zE|apply zF|apply zG)<;>intro)
 all_goals first | exact hk | exact hz | exact k1 | exact k2 | exact k3 | exact k4 | exact k5 | exact k6 | exact congrArg (D.int .i64) hl | exact congrArg (D.int .i64) hm | exact congrArg (D.int .i64) hu | rfl | omega | (rw [hc]; rfl) | exact dyes (by omega) | exact dno (by omega) | (refine congrArg D.bool ?_; simp [ht]; done) | (refine congrArg D.bool ?_; simp [he]; done) | (refine congrArg D.bool ?_; rw [beq_eq_false_iff_ne]; omega) | (simp; omega) | (simp [chunk, ckD, D.cells]; done) | exact ckD_sz _ | skip
theorem flB_mem (s : Sq) : ∀ (l : List Ck) (a : Int), flB s l a = true → ∀ c ∈ l, ∃ a', a ≤ a' ∧ fitsB s c a' = true
 | [], a, _, c, hc => by cases hc
 | x :: l, a, h, c, hc => by
  unfold flB at h
  rw [Bool.and_eq_true] at h
  rcases List.mem_cons.1 hc with rfl | hc
  ·exact ⟨a, Int.le_refl _, h.1⟩
  ·obtain ⟨a', h1, h2⟩ := flB_mem s l x.t h.2 c hc
   have h3 := h.1
   unfold fitsB offB at h3
   rw [Bool.and_eq_true, Bool.not_eq_true', decide_eq_false_iff_not] at h3
   exact ⟨a', by omega, h2⟩
theorem fits_in {s : Sq} {c : Ck} {a : Int} (ha : 0 ≤ a) (hn : s.n ≤ 1099511632000) (h : fitsB s c a = true) : a ≤ c.f ∧ c.f < c.t ∧ c.t ≤ s.n ∧ c.t - c.f ≤ 48 ∧ cSz c = c.t - c.f ∧ (0 ≤ c.s ∧ c.s ≤ 1099511627776) ∧ (1 ≤ c.r ∧ c.r ≤ 1073741824) ∧ rGaps s.cm (ckI c) = [ckI c] := by
 unfold fitsB offB timB tickB at h
 simp only [Bool.and_eq_true, Bool.not_eq_true', decide_eq_false_iff_not, decide_eq_true_eq] at h
 obtain ⟨h1, ⟨⟨t1, t2⟩, t3, t4⟩, h3⟩ := h
 have hw : cSz c = c.t - c.f := wrap_in (by omega) (by omega)
 rw [hw] at h1
 exact ⟨by omega, by omega, by omega, by omega, hw, ⟨t1, t2⟩, ⟨by omega, t4⟩, h3⟩
theorem fl_bd (s : Sq) (hn : s.n ≤ 1099511632000) : ∀ (l : List Ck) (a m : Int), 0 ≤ a → a ≤ s.n → flB s l a = true → 0 ≤ m → m ≤ a → m ≤ l.foldl flS m ∧ l.foldl flS m ≤ m + (s.n - a)
 | [], a, m, _, _, _, _, _ => ⟨Int.le_refl _, by show m ≤ _; omega⟩
 | c :: l, a, m, ha, han, h, hm, hma => by
  unfold flB at h
  rw [Bool.and_eq_true] at h
  obtain ⟨f1, f2, f3, f4, f5, -⟩ := fits_in ha hn h.1
  show m ≤ l.foldl flS (flS m c) ∧ l.foldl flS (flS m c) ≤ _
  have e : m ≤ flS m c ∧ flS m c ≤ m + (c.t - a) ∧ flS m c ≤ c.t := by
   unfold flS
   split
   ·omega
   ·rw [f5, wrap_in (by omega) (by omega)]; omega
  have := fl_bd s hn l c.t (flS m c) (by omega) f3 h.2 (by omega) e.2.2
  omega
theorem flight_bd {s : Sq} (hn : s.n < 9223372036854775808) (h : sChk s = 0) : 0 ≤ rFlight s ∧ rFlight s ≤ s.n - s.b := by
 obtain ⟨⟨c1, c2, c3, c4⟩, c5, -, c7⟩ := sChk_ok hn h
 unfold lastP at c2
 have := fl_bd s (by omega) s.fl s.b 0 c1 c3 c7 (by omega) c1
 unfold rFlight
 omega
theorem pick12 (s : Sq) (h : SqOk s) (now win limit : Int) (hw : -9223372036854775808 ≤ win ∧ win < 9223372036854775808) (hl : -9223372036854775808 ≤ limit ∧ limit < 9223372036854775808) :
  FnOK Tryz.prog 54 [.d (sqD s), .d (.int .i64 now), .d (.int .i64 win), .d (.int .i64 limit)] [] (.tup [.d (sqD (rPick s now win limit).1), .d (ckD (rPick s now win limit).2.1), .d (.str (rPick s now win limit).2.2)]) [] := by
 have k1 := ownH s h
 have k2 := tick34 now trivial trivial
 have k3 := chk28 s (by have := h.fl; omega) (by have := h.cm; omega)
 have k4 := flight24 s (by have := h.fl; omega)
 unfold rPick
 cases ht : tickB now
 ·rw [if_pos (.inr rfl)]
  exact pick12a s now win limit k1 k2 ht trivial trivial trivial trivial trivial trivial trivial
 ·by_cases he : sChk s = 0
  ·rw [if_neg (by simp [he])]
   have hfb := flight_bd h.n.2 he
   obtain ⟨⟨c1, c2, c3, c4⟩, c5, c6, c7⟩ := sChk_ok h.n.2 he
   unfold lastP at c2
   rcases ckD_firstA 80 lostB s.fl (by have := h.fl; omega) (fun x _ => lost36 x trivial trivial) with ⟨g1, g2⟩ | ⟨i, c, g1, g2, g3, g4⟩
   ·have e0 : s.fl.findIdx? lostB = none := by rw [List.findIdx?_eq_none_iff]; exact g1
    rw [e0]
    have e1 : IntKind.i64.wrap (IntKind.i64.wrap (s.b + (s.d.length : Int)) - s.n) = s.b + (s.d.length : Int) - s.n := by
     rw [wrap_in (x := s.b + (s.d.length : Int)) (by omega) (by omega)]
     exact wrap_in (by omega) (by omega)
    dsimp only
    by_cases hq : s.b + (s.d.length : Int) - s.n = 0 ∨ win ≤ rFlight s ∨ limit ≤ s.n
    ·simp only [if_pos hq]
     exact pick12e s now win limit k1 k2 ht _ k3 he _ k4 g2 _ e1 hq trivial trivial trivial
    ·simp only [if_neg hq]
     have e2 : IntKind.i64.wrap (win - rFlight s) = win - rFlight s := wrap_in (by omega) (by omega)
     have e3 : IntKind.i64.wrap (limit - s.n) = limit - s.n := wrap_in (by omega) (by omega)
     have hp : 0 < pkN s win limit ∧ pkN s win limit ≤ s.b + (s.d.length : Int) - s.n := by unfold pkN; omega
     have e4 : IntKind.i64.wrap (s.n + pkN s win limit) = s.n + pkN s win limit := wrap_in (by omega) (by omega)
     refine pick12f s now win limit k1 k2 ht _ k3 he _ k4 g2 _ e1 hq (by have := h.fl; omega) (pkN s win limit) _ (by rw [e2, e3]; rfl) e4 _ rfl _ ?_
     exact text39 _ _ (s.n - s.b) (s.n + pkN s win limit - s.b) (wrap_in (by show _ ≤ s.n - s.b; omega) (by show s.n - s.b < _; omega)) (wrap_in (by show _ ≤ s.n + pkN s win limit - s.b; omega) (by show s.n + pkN s win limit - s.b < _; omega)) (by omega) (by omega) (by show _ ≤ (s.d.length : Int); omega)
   ·have hlt := get_lt g1
    have e0 : s.fl.findIdx? lostB = some i := by
     rw [List.findIdx?_eq_some_iff_getElem]
     refine ⟨hlt, by rw [(List.getElem?_eq_some_iff.1 g1).2]; exact g2, fun j hj => ?_⟩
     rw [g3 j _ hj (get_of (by omega))]
     simp
    rw [e0]
    obtain ⟨a', ha1, ha2⟩ := flB_mem s s.fl s.b c7 c (get_mem g1)
    obtain ⟨f1, f2, f3, f4, f5, -⟩ := fits_in (by omega) (by omega) ha2
    have e5 : IntKind.i64.wrap (rFlight s + (c.t - c.f)) = rFlight s + (c.t - c.f) := wrap_in (by omega) (by omega)
    dsimp only
    simp only [g1]
    by_cases hq : rFlight s = 0 ∨ rFlight s + (c.t - c.f) ≤ win
    ·simp only [if_pos hq]
     exact pick12d s now win limit k1 k2 ht _ k3 he _ k4 i c g1 g4 true hq f5 e5 { s with fl := s.fl.set i (again c now) } (again c now) _ (repeat38 s i now c g1 (c.f - s.b) (c.t - s.b) (wrap_in (by omega) (by omega)) (wrap_in (by omega) (by omega)) (by omega) (by omega) (by omega))
    ·simp only [if_neg hq]
     exact pick12c s now win limit k1 k2 ht _ k3 he _ k4 i c g1 g4 hq f5 e5 trivial trivial trivial
  ·rw [if_pos (.inl he)]
   exact pick12b s now win limit k1 k2 ht _ k3 he trivial trivial trivial trivial trivial
end Go.Proofs.YtalpfhpeaaocmaaGreat.C11
end
section
namespace Go.Proofs.YtalpfhpeaaocmaaGreat.C11
open Sx Go.RowKit C06
def lose1 (c : Ck) : Ck := { c with l := true }
def rExpire (s : Sq) : Sq × Bool := ({ s with fl := s.fl.map lose1 }, s.fl.any (fun c => !c.l))
/-- Rows half turned. -/
def mapTo (f : Ck → Ck) (l : List Ck) (j : Nat) : List Ck := (l.take j).map f ++ l.drop j
theorem mapTo_zero (f : Ck → Ck) (l : List Ck) : mapTo f l 0 = l := by simp [mapTo]
theorem mapTo_len (f : Ck → Ck) (l : List Ck) (j : Nat) : (mapTo f l j).length = l.length := by simp [mapTo]; omega
theorem mapTo_end (f : Ck → Ck) (l : List Ck) : mapTo f l l.length = l.map f := by simp [mapTo]
theorem mapTo_get (f : Ck → Ck) {l : List Ck} {j : Nat} {c : Ck} (h : l[j]? = some c) : (mapTo f l j)[j]? = some c := by
 have hj := get_lt h
 unfold mapTo
 rw [List.getElem?_append_right (by simp; omega)]
 simp only [List.length_map, List.length_take, Nat.min_eq_left (Nat.le_of_lt hj), Nat.sub_self, List.getElem?_drop, Nat.add_zero]
 exact h
theorem mapTo_set (f : Ck → Ck) {l : List Ck} {j : Nat} {c : Ck} (h : l[j]? = some c) : (mapTo f l j).set j (f c) = mapTo f l (j + 1) := by
 have hj := get_lt h
 unfold mapTo
 rw [take_snoc h, List.map_append, List.set_append_right _ _ (by simp; omega)]
 simp only [List.length_map, List.length_take, Nat.min_eq_left (Nat.le_of_lt hj), Nat.sub_self]
 rw [List.drop_eq_getElem_cons hj]
 have : l[j] = c := (List.getElem?_eq_some_iff.1 h).2
 rw [this]
 simp
theorem any_snoc {f : Ck → Bool} {l : List Ck} {j : Nat} {c : Ck} (h : l[j]? = some c) : (l.take (j + 1)).any f = ((l.take j).any f || f c) := by
 rw [take_snoc h, List.any_append]
 simp
def notL (c : Ck) : Bool := !c.l
def I14 (s : Sq) (q : Bool) (j : Nat) : St := ⟨[(2, .ptr 0 0), (4, .ptr 1 0), (5, .d (.bool q)), (11, .d (.int .i64 s.fl.length)), (12, .d (.int .i64 j))], [(0, .box [.d (.int .i64 0), .d (.str []), .d (.int .i64 0), .raw (.slice none 0 0), .raw (.slice none 0 0)]), (1, .box [.d (.int .i64 s.b), .d (.str s.d), .d (.int .i64 s.n), .own 2 5, .d (.sl (s.cm.map ivD))]), (2, .row 5 ((mapTo lose1 s.fl j).map ckD))]⟩
theorem r14 (s : Sq) (hl : s.fl.length < 1000000) (q q' : Bool) (j : Nat) (c : Ck) (hn : s.fl[j]? = some c) (hm : (mapTo lose1 s.fl j)[j]? = some c) (hs : (mapTo lose1 s.fl j).set j (lose1 c) = mapTo lose1 s.fl (j+1)) (hq : (q || !c.l) = q') : Runs Tryz.prog 0 (loopN Tryz.prog 47 0) (St.as (I14 s q j) 33) (.normal) (St.as (I14 s q' (j+1)) 33) := by
 refine round_wp (p := condP (decide ((↑j : Int) < (↑s.fl.length : Int))) (condP (q) ((D.bool q = D.bool true) ∧ (D.bool true = D.bool q') ∧ ((0 : Int) ≤ (↑j : Int) ∧ (↑j : Int) < (↑(List.map ckD (mapTo lose1 s.fl j)).length : Int)) ∧ ((↑j : Int).toNat < (List.map ckD (mapTo lose1 s.fl j)).length) ∧ (5 = 5) ∧ ((List.map ckD (mapTo lose1 s.fl j))[(↑j : Int).toNat]? = some (ckD c)) ∧ (rf (AV.ptr 0 0)) ∧ (rf (AV.ptr 1 0)) ∧ (rf (vB q')) ∧ (rf (vI (↑s.fl.length : Int))) ∧ (vI (IntKind.i64.wrap ((↑j : Int) + (1 : Int))) = vI (↑(j + 1) : Int)) ∧ (rf (Ob.box [vI 0, vS [], vI 0, AV.raw (Value.slice none 0 0), AV.raw (Value.slice none 0 0)])) ∧ (rf (Ob.box [vI s.b, vS s.d, vI s.n, AV.own 2 5, vL (List.map ivD s.cm)])) ∧ (Ob.row 5 ((List.map ckD (mapTo lose1 s.fl j)).set (↑j : Int).toNat (D.agg (List.take 4 [D.int .i64 c.f, D.int .i64 c.t, D.int .i64 c.s, D.int .i64 c.r, D.bool c.l] ++ [D.bool true] ++ List.drop 5 [D.int .i64 c.f, D.int .i64 c.t, D.int .i64 c.s, D.int .i64 c.r, D.bool c.l]))) = Ob.row 5 (List.map ckD (mapTo lose1 s.fl (j + 1)))) ∧ True) ((D.bool q = D.bool false) ∧ ((0 : Int) ≤ (↑j : Int) ∧ (↑j : Int) < (↑(List.map ckD (mapTo lose1 s.fl j)).length : Int)) ∧ ((↑j : Int).toNat < (List.map ckD (mapTo lose1 s.fl j)).length) ∧ (5 = 5) ∧ ((List.map ckD (mapTo lose1 s.fl j))[(↑j : Int).toNat]? = some (ckD c)) ∧ ((D.bool !c.l) = D.bool q') ∧ ((0 : Int) ≤ (↑j : Int) ∧ (↑j : Int) < (↑(List.map ckD (mapTo lose1 s.fl j)).length : Int)) ∧ ((↑j : Int).toNat < (List.map ckD (mapTo lose1 s.fl j)).length) ∧ (5 = 5) ∧ ((List.map ckD (mapTo lose1 s.fl j))[(↑j : Int).toNat]? = some (ckD c)) ∧ (rf (AV.ptr 0 0)) ∧ (rf (AV.ptr 1 0)) ∧ (rf (vB q')) ∧ (rf (vI (↑s.fl.length : Int))) ∧ (vI (IntKind.i64.wrap ((↑j : Int) + (1 : Int))) = vI (↑(j + 1) : Int)) ∧ (rf (Ob.box [vI 0, vS [], vI 0, AV.raw (Value.slice none 0 0), AV.raw (Value.slice none 0 0)])) ∧ (rf (Ob.box [vI s.b, vS s.d, vI s.n, AV.own 2 5, vL (List.map ivD s.cm)])) ∧ (Ob.row 5 ((List.map ckD (mapTo lose1 s.fl j)).set (↑j : Int).toNat (D.agg (List.take 4 [D.int .i64 c.f, D.int .i64 c.t, D.int .i64 c.s, D.int .i64 c.r, D.bool c.l] ++ [D.bool true] ++ List.drop 5 [D.int .i64 c.f, D.int .i64 c.t, D.int .i64 c.s, D.int .i64 c.r, D.bool c.l]))) = Ob.row 5 (List.map ckD (mapTo lose1 s.fl (j + 1)))) ∧ True)) (False)) (h := {els := [(21, .el (ckD c)), (29, .el (ckD c))], H := [(6, [(10, .val (.bool q'))])]}) (subs := []) (ws := []) (ρ := []) (by kernel_rfl) ?_
 have hj := get_lt hn
 have hi := inc_i64 (j := j) (by omega)
 have hln := mapTo_len lose1 s.fl j
 have hsD : ((mapTo lose1 s.fl j).map ckD).set j (ckD (lose1 c)) = (mapTo lose1 s.fl (j+1)).map ckD := by rw [← List.map_set, hs]
 try simp only [hi]
 refine condP_t (by rw [decide_eq_true_eq]; omega) ?_
 simp only [Int.toNat_natCast]
 repeat' (with_reducible first|exact ⟨⟩|apply And.intro|(first|apply zA|apply zB|apply zC|apply zD|apply zE|apply zF|apply zG)<;>intro)
 all_goals first | exact el_map hm rfl | exact hsD | exact congrArg (Ob.row 5) hsD | rfl | omega | (simp [hln]; omega) | (refine congrArg D.bool ?_; rw [← hq]; simp_all; done) | (subst hq; simp_all; done) | skip
theorem q14 (s : Sq) (q : Bool) : Runs Tryz.prog 0 (loopN Tryz.prog 47 0) (St.as (I14 s q s.fl.length) 33) (.exit 0) (St.as (I14 s q s.fl.length) 33) := by
 refine round_wp (p := condP (decide ((↑s.fl.length : Int) < (↑s.fl.length : Int))) (condP (q) ((D.bool q = D.bool true) ∧ (False)) (False)) ((rf (AV.ptr 0 0)) ∧ (rf (AV.ptr 1 0)) ∧ (rf (vB q)) ∧ (rf (vI (↑s.fl.length : Int))) ∧ (rf (vI (↑s.fl.length : Int))) ∧ (rf (Ob.box [vI 0, vS [], vI 0, AV.raw (Value.slice none 0 0), AV.raw (Value.slice none 0 0)])) ∧ (rf (Ob.box [vI s.b, vS s.d, vI s.n, AV.own 2 5, vL (List.map ivD s.cm)])) ∧ (rf (Ob.row 5 (List.map ckD (mapTo lose1 s.fl s.fl.length)))) ∧ True)) (h := {}) (subs := []) (ws := []) (ρ := []) (by kernel_rfl) ?_
 repeat' (with_reducible first|exact ⟨⟩|apply And.intro|(first|apply zA|apply zB|apply zC|apply zD|apply zE|apply zF|apply zG)<;>intro)
 all_goals first | rfl | omega
theorem exp14 (s : Sq) (q : Bool) (k1 : FnOK Tryz.prog 52 [.d (sqD s)] [] (oAV s) [.row 5 (s.fl.map ckD)]) (hL : Loops Tryz.prog 0 (loopN Tryz.prog 47 0) ((I14 s false 0).as 33) (.exit 0) ((I14 s q s.fl.length).as 33)) : FnOK Tryz.prog 47 ([.d (sqD s)]) ([]) (.tup [.d (sqD { s with fl := s.fl.map lose1 }), .d (.bool q)]) ([]) := by
 refine fnOK_wp (p := (FnOK Tryz.prog 52 [AV.d (sqD s)] [] (AV.agg [vI s.b, vS s.d, vI s.n, AV.own 0 5, vL (List.map ivD s.cm)]) [Ob.row 5 (List.map ckD s.fl)]) ∧ (rf (AV.ptr 1016 0)) ∧ (rf (AV.ptr 1032 0)) ∧ (rf (vB false)) ∧ (vI (↑(List.map ckD s.fl).length : Int) = vI (↑s.fl.length : Int)) ∧ (rf (vI 0)) ∧ (rf (Ob.box [vI 0, vS [], vI 0, AV.raw (Value.slice none 0 0), AV.raw (Value.slice none 0 0)])) ∧ (rf (Ob.box [vI s.b, vS s.d, vI s.n, AV.own 1064 5, vL (List.map ivD s.cm)])) ∧ (Ob.row 5 (List.map ckD s.fl) = Ob.row 5 (List.map ckD (mapTo lose1 s.fl 0))) ∧ (LoopsS Tryz.prog 0 (loopN Tryz.prog 47 0) (I14 s false 0) (Exit.exit 0) (I14 s q s.fl.length) 33) ∧ (AV.tup [AV.d (.agg [D.int .i64 s.b, D.str s.d, D.int .i64 s.n, D.sl (List.map ckD (mapTo lose1 s.fl s.fl.length)), D.sl (List.map ivD s.cm)]), vB q] = AV.tup [AV.d (.agg [D.int .i64 s.b, D.str s.d, D.int .i64 s.n, D.sl (List.map ckD (List.map lose1 s.fl)), D.sl (List.map ivD s.cm)]), vB q]) ∧ True) (h := {H := [(1, [(1, .call [] (oAV s) [.row 5 (s.fl.map ckD)])])]}) (subs := [⟨[], [], I14 s false 0, .exit 0, I14 s q s.fl.length⟩]) (ws := []) (ρ := []) (by kernel_rfl) ?_
 have h0 := mapTo_zero lose1 s.fl
 have h1 := mapTo_end lose1 s.fl
 try simp only [List.length_map]
 repeat' (with_reducible first|exact ⟨⟩|apply And.intro|(first|apply zA|apply zB|apply zC|apply zD|apply zE|apply zF|apply zG)<;>intro)
 all_goals first | exact k1 | exact hL | rfl | (rw [h0]; done) | (rw [h1]; done) | (rw [h0]; rfl) | (rw [h1]; rfl) | (rw [List.length_map]; done) | skip
theorem expire14 (s : Sq) (h : SqOk s) : FnOK Tryz.prog 47 [.d (sqD s)] [] (.tup [.d (sqD (rExpire s).1), .d (.bool (rExpire s).2)]) [] := by
 have hf := h.fl
 refine exp14 s _ (ownH s h) ?_
 have hL := loops_n (P := Tryz.prog) (k := 0) (c := loopN Tryz.prog 47 0) (e := .exit 0) (I := fun j => (I14 s ((s.fl.take j).any notL) j).as 33) (by simp) s.fl.length 0 (by omega) (fun j _ hj => by
  have hn := get_of hj
  show Runs _ _ _ _ _ ((I14 s ((s.fl.take (j + 1)).any notL) (j + 1)).as _)
  exact r14 s (by omega) _ _ j _ hn (mapTo_get lose1 hn) (mapTo_set lose1 hn) (any_snoc hn).symm) (by simp only [List.take_length]; exact q14 s _)
 exact hL
def oldS (p : Int × Bool) (c : Ck) : Int × Bool := if c.l = false ∧ (p.2 = false ∨ c.s < p.1) then (c.s, true) else p
def rOldest (s : Sq) : Int × Bool := s.fl.foldl oldS (0, false)
def I16 (s : Sq) (p : Int × Bool) (j : Nat) : St := ⟨[(4, .d (.int .i64 p.1)), (5, .d (.bool p.2)), (9, .d (.sl (s.fl.map ckD))), (10, .d (.int .i64 s.fl.length)), (11, .d (.int .i64 j))], []⟩
theorem r16a (s : Sq) (hl : s.fl.length < 1000000) (u : Int) (q : Bool) (j : Nat) (c : Ck) (hn : s.fl[j]? = some c) (h1 : c.l = true) (h2 : True) : Runs Tryz.prog 0 (loopN Tryz.prog 45 0) (St.as (I16 s (u, q) j) 33) (.normal) (St.as (I16 s (u, q) (j+1)) 33) := by
 refine round_wp (p := condP (decide ((↑j : Int) < (↑s.fl.length : Int))) (((0 : Int) ≤ (↑j : Int)) ∧ ((List.map ckD s.fl)[(↑j : Int).toNat]? = some (ckD c)) ∧ ((D.bool !c.l) = D.bool false) ∧ (rf (vI (u, q).fst)) ∧ (rf (vB (u, q).snd)) ∧ (rf (vL (List.map ckD s.fl))) ∧ (rf (vI (↑s.fl.length : Int))) ∧ (vI (IntKind.i64.wrap ((↑j : Int) + (1 : Int))) = vI (↑(j + 1) : Int)) ∧ True) (False)) (h := {els := [(9, .el (ckD c))], H := [(5, [(3, .val (.bool false))])]}) (subs := []) (ws := []) (ρ := []) (by kernel_rfl) ?_
 have hj := get_lt hn
 have hi := inc_i64 (j := j) (by omega)
 try simp only [hi, List.length_map]
 refine condP_t (by rw [decide_eq_true_eq]; omega) ?_
 repeat' (with_reducible first|exact ⟨⟩|apply And.intro|(first|apply zA|apply zB|apply zC|apply zD|apply zE|apply zF|apply zG)<;>intro)
 all_goals first | exact el_map hn rfl | rfl | omega | (refine congrArg D.bool ?_; simp [h1]; done) | (refine congrArg D.bool ?_; simp [h2]; done) | exact dyes (by omega) | exact dno (by omega) | skip
theorem r16b (s : Sq) (hl : s.fl.length < 1000000) (u : Int) (q : Bool) (j : Nat) (c : Ck) (hn : s.fl[j]? = some c) (h1 : c.l = false) (h2 : q = false) : Runs Tryz.prog 0 (loopN Tryz.prog 45 0) (St.as (I16 s (u, q) j) 33) (.normal) (St.as (I16 s (c.s, true) (j+1)) 33) := by
 refine round_wp (p := condP (decide ((↑j : Int) < (↑s.fl.length : Int))) (((0 : Int) ≤ (↑j : Int)) ∧ ((List.map ckD s.fl)[(↑j : Int).toNat]? = some (ckD c)) ∧ ((D.bool !c.l) = D.bool true) ∧ ((D.bool !(u, q).snd) = D.bool true) ∧ (vI c.s = vI (c.s, true).fst) ∧ (rf (vB true)) ∧ (rf (vL (List.map ckD s.fl))) ∧ (rf (vI (↑s.fl.length : Int))) ∧ (vI (IntKind.i64.wrap ((↑j : Int) + (1 : Int))) = vI (↑(j + 1) : Int)) ∧ True) (False)) (h := {els := [(9, .el (ckD c))], H := [(5, [(3, .val (.bool true)), (6, .val (.bool true))])]}) (subs := []) (ws := []) (ρ := []) (by kernel_rfl) ?_
 have hj := get_lt hn
 have hi := inc_i64 (j := j) (by omega)
 try simp only [hi, List.length_map]
 refine condP_t (by rw [decide_eq_true_eq]; omega) ?_
 repeat' (with_reducible first|exact ⟨⟩|apply And.intro|(first|apply zA|apply zB|apply zC|apply zD|apply zE|apply zF|apply zG)<;>intro)
 all_goals first | exact el_map hn rfl | rfl | omega | (refine congrArg D.bool ?_; simp [h1]; done) | (refine congrArg D.bool ?_; simp [h2]; done) | exact dyes (by omega) | exact dno (by omega) | skip
theorem r16c (s : Sq) (hl : s.fl.length < 1000000) (u : Int) (q : Bool) (j : Nat) (c : Ck) (hn : s.fl[j]? = some c) (h1 : c.l = false) (h2 : q = true) (h3 : c.s < u) : Runs Tryz.prog 0 (loopN Tryz.prog 45 0) (St.as (I16 s (u, q) j) 33) (.normal) (St.as (I16 s (c.s, true) (j+1)) 33) := by
 refine round_wp (p := condP (decide ((↑j : Int) < (↑s.fl.length : Int))) (((0 : Int) ≤ (↑j : Int)) ∧ ((List.map ckD s.fl)[(↑j : Int).toNat]? = some (ckD c)) ∧ ((D.bool !c.l) = D.bool true) ∧ ((D.bool !(u, q).snd) = D.bool false) ∧ (D.bool (decide (c.s < (u, q).fst)) = D.bool true) ∧ (vI c.s = vI (c.s, true).fst) ∧ (rf (vB true)) ∧ (rf (vL (List.map ckD s.fl))) ∧ (rf (vI (↑s.fl.length : Int))) ∧ (vI (IntKind.i64.wrap ((↑j : Int) + (1 : Int))) = vI (↑(j + 1) : Int)) ∧ True) (False)) (h := {els := [(9, .el (ckD c))], H := [(5, [(3, .val (.bool true)), (6, .val (.bool false)), (10, .val (.bool true))])]}) (subs := []) (ws := []) (ρ := []) (by kernel_rfl) ?_
 have hj := get_lt hn
 have hi := inc_i64 (j := j) (by omega)
 try simp only [hi, List.length_map]
 refine condP_t (by rw [decide_eq_true_eq]; omega) ?_
 repeat' (with_reducible first|exact ⟨⟩|apply And.intro|(first|apply zA|apply zB|apply zC|apply zD|apply zE|apply zF|apply zG)<;>intro)
 all_goals first | exact el_map hn rfl | rfl | omega | (refine congrArg D.bool ?_; simp [h1]; done) | (refine congrArg D.bool ?_; simp [h2]; done) | exact dyes (by omega) | exact dno (by omega) | skip
theorem r16d (s : Sq) (hl : s.fl.length < 1000000) (u : Int) (q : Bool) (j : Nat) (c : Ck) (hn : s.fl[j]? = some c) (h1 : c.l = false) (h2 : q = true) (h3 : ¬c.s < u) : Runs Tryz.prog 0 (loopN Tryz.prog 45 0) (St.as (I16 s (u, q) j) 33) (.normal) (St.as (I16 s (u, q) (j+1)) 33) := by
 refine round_wp (p := condP (decide ((↑j : Int) < (↑s.fl.length : Int))) (((0 : Int) ≤ (↑j : Int)) ∧ ((List.map ckD s.fl)[(↑j : Int).toNat]? = some (ckD c)) ∧ ((D.bool !c.l) = D.bool true) ∧ ((D.bool !(u, q).snd) = D.bool false) ∧ (D.bool (decide (c.s < (u, q).fst)) = D.bool false) ∧ (rf (vI (u, q).fst)) ∧ (rf (vB (u, q).snd)) ∧ (rf (vL (List.map ckD s.fl))) ∧ (rf (vI (↑s.fl.length : Int))) ∧ (vI (IntKind.i64.wrap ((↑j : Int) + (1 : Int))) = vI (↑(j + 1) : Int)) ∧ True) (False)) (h := {els := [(9, .el (ckD c))], H := [(5, [(3, .val (.bool true)), (6, .val (.bool false)), (10, .val (.bool false))])]}) (subs := []) (ws := []) (ρ := []) (by kernel_rfl) ?_
 have hj := get_lt hn
 have hi := inc_i64 (j := j) (by omega)
 try simp only [hi, List.length_map]
 refine condP_t (by rw [decide_eq_true_eq]; omega) ?_
 repeat' (with_reducible first|exact ⟨⟩|apply And.intro|(first|apply zA|apply zB|apply zC|apply zD|apply zE|apply zF|apply zG)<;>intro)
 all_goals first | exact el_map hn rfl | rfl | omega | (refine congrArg D.bool ?_; simp [h1]; done) | (refine congrArg D.bool ?_; simp [h2]; done) | exact dyes (by omega) | exact dno (by omega) | skip
theorem q16 (s : Sq) (p : Int × Bool) : Runs Tryz.prog 0 (loopN Tryz.prog 45 0) (St.as (I16 s p s.fl.length) 33) (.exit 0) (St.as (I16 s p s.fl.length) 33) := by
 refine round_wp (p := condP (decide ((↑s.fl.length : Int) < (↑s.fl.length : Int))) (False) ((rf (vI p.fst)) ∧ (rf (vB p.snd)) ∧ (rf (vL (List.map ckD s.fl))) ∧ (rf (vI (↑s.fl.length : Int))) ∧ (rf (vI (↑s.fl.length : Int))) ∧ True)) (h := {}) (subs := []) (ws := []) (ρ := []) (by kernel_rfl) ?_
 repeat' (with_reducible first|exact ⟨⟩|apply And.intro|(first|apply zA|apply zB|apply zC|apply zD|apply zE|apply zF|apply zG)<;>intro)
 all_goals first | rfl | omega
theorem old16 (s : Sq) (p : Int × Bool) (hL : Loops Tryz.prog 0 (loopN Tryz.prog 45 0) ((I16 s (0, false) 0).as 33) (.exit 0) ((I16 s p s.fl.length).as 33)) : FnOK Tryz.prog 45 ([.d (sqD s)]) ([]) (.tup [.d (.int .i64 p.1), .d (.bool p.2)]) ([]) := by
 refine fnOK_wp (p := (rf (vI 0)) ∧ (rf (vB false)) ∧ (rf (vL (List.map ckD s.fl))) ∧ (vI (↑(List.map ckD s.fl).length : Int) = vI (↑s.fl.length : Int)) ∧ (rf (vI 0)) ∧ (LoopsS Tryz.prog 0 (loopN Tryz.prog 45 0) (I16 s ((0 : Int), false) 0) (Exit.exit 0) (I16 s p s.fl.length) 33) ∧ (rf (AV.tup [vI p.fst, vB p.snd])) ∧ True) (h := {}) (subs := [⟨[], [], I16 s (0, false) 0, .exit 0, I16 s p s.fl.length⟩]) (ws := []) (ρ := []) (by kernel_rfl) ?_
 simp only [List.length_map]
 repeat' (with_reducible first|exact ⟨⟩|apply And.intro|(first|apply zA|apply zB|apply zC|apply zD|apply zE|apply zF|apply zG)<;>intro)
 all_goals first | exact hL | rfl | skip
theorem oldS_cases (u : Int) (q : Bool) (c : Ck) : (c.l = true ∧ oldS (u, q) c = (u, q)) ∨ (c.l = false ∧ q = false ∧ oldS (u, q) c = (c.s, true)) ∨ (c.l = false ∧ q = true ∧ c.s < u ∧ oldS (u, q) c = (c.s, true)) ∨ (c.l = false ∧ q = true ∧ ¬c.s < u ∧ oldS (u, q) c = (u, q)) := by
 unfold oldS
 cases h1 : c.l
 ·cases q
  ·exact .inr (.inl ⟨rfl, rfl, by simp⟩)
  ·by_cases h : c.s < u
   ·exact .inr (.inr (.inl ⟨rfl, rfl, h, by simp [h]⟩))
   ·exact .inr (.inr (.inr ⟨rfl, rfl, h, by simp [h]⟩))
 ·exact .inl ⟨rfl, by simp⟩
theorem step16 (s : Sq) (hl : s.fl.length < 1000000) (p : Int × Bool) (j : Nat) (c : Ck) (hn : s.fl[j]? = some c) : Runs Tryz.prog 0 (loopN Tryz.prog 45 0) ((I16 s p j).as 33) .normal ((I16 s (oldS p c) (j+1)).as 33) := by
 obtain ⟨u, q⟩ := p
 rcases oldS_cases u q c with ⟨h1, e⟩ | ⟨h1, h2, e⟩ | ⟨h1, h2, h3, e⟩ | ⟨h1, h2, h3, e⟩ <;> rw [e]
 ·exact r16a s hl u q j c hn h1 trivial
 ·exact r16b s hl u q j c hn h1 h2
 ·exact r16c s hl u q j c hn h1 h2 h3
 ·exact r16d s hl u q j c hn h1 h2 h3
theorem oldest16 (s : Sq) (hl : s.fl.length < 1000000) : FnOK Tryz.prog 45 [.d (sqD s)] [] (.tup [.d (.int .i64 (rOldest s).1), .d (.bool (rOldest s).2)]) [] := by
 have hL := loops_n (P := Tryz.prog) (k := 0) (c := loopN Tryz.prog 45 0) (e := .exit 0) (I := fun j => (I16 s ((s.fl.take j).foldl oldS (0, false)) j).as 33) (by simp) s.fl.length 0 (by omega) (fun j _ hj => by
  have hn := get_of hj
  show Runs _ _ _ _ _ ((I16 s ((s.fl.take (j + 1)).foldl oldS (0, false)) (j + 1)).as _)
  rw [take_snoc hn, List.foldl_append]
  exact step16 s hl _ j _ hn) (by simp only [List.take_length]; exact q16 s _)
 exact old16 s _ hL
theorem sq_dec (a b : Sq) : decide (a = b) = ((a.b == b.b) && ((a.d == b.d) && ((a.n == b.n) && (decide (a.fl = b.fl) && decide (a.cm = b.cm))))) := by
 obtain ⟨a1, a2, a3, a4, a5⟩ := a
 obtain ⟨b1, b2, b3, b4, b5⟩ := b
 rw [Bool.eq_iff_iff]
 simp only [decide_eq_true_eq, Sq.mk.injEq, Bool.and_eq_true, beq_iff_eq]
theorem same29w (a b : Sq) (k1 : FnOK Tryz.prog 67 [.d (.sl (a.fl.map ckD)), .d (.sl (b.fl.map ckD))] [] (.d (.bool (decide (a.fl = b.fl)))) []) (k2 : FnOK Tryz.prog 68 [.d (.sl (a.cm.map ivD)), .d (.sl (b.cm.map ivD))] [] (.d (.bool (decide (a.cm = b.cm)))) []) : FnOK Tryz.prog 35 ([.d (sqD a), .d (sqD b)]) ([]) (.d (.bool ((a.b == b.b) && ((a.d == b.d) && ((a.n == b.n) && (decide (a.fl = b.fl) && decide (a.cm = b.cm))))))) ([]) := by
 refine fnOK_wp (p := condP (a.b == b.b) (condP (a.d == b.d) (condP (a.n == b.n) (condP (decide (a.fl = b.fl)) ((D.bool (a.b == b.b) = D.bool true) ∧ (D.bool (a.d == b.d) = D.bool true) ∧ (D.bool (a.n == b.n) = D.bool true) ∧ (FnOK Tryz.prog 67 [vL (List.map ckD a.fl), vL (List.map ckD b.fl)] [] (vB (decide (a.fl = b.fl))) []) ∧ (D.bool (decide (a.fl = b.fl)) = D.bool true) ∧ (FnOK Tryz.prog 68 [vL (List.map ivD a.cm), vL (List.map ivD b.cm)] [] (vB (decide (a.cm = b.cm))) []) ∧ (vB (decide (a.cm = b.cm)) = vB (a.b == b.b && (a.d == b.d && (a.n == b.n && (decide (a.fl = b.fl) && decide (a.cm = b.cm)))))) ∧ True) ((D.bool (a.b == b.b) = D.bool true) ∧ (D.bool (a.d == b.d) = D.bool true) ∧ (D.bool (a.n == b.n) = D.bool true) ∧ (FnOK Tryz.prog 67 [vL (List.map ckD a.fl), vL (List.map ckD b.fl)] [] (vB (decide (a.fl = b.fl))) []) ∧ (D.bool (decide (a.fl = b.fl)) = D.bool false) ∧ (vB false = vB (a.b == b.b && (a.d == b.d && (a.n == b.n && (decide (a.fl = b.fl) && decide (a.cm = b.cm)))))) ∧ True)) ((D.bool (a.b == b.b) = D.bool true) ∧ (D.bool (a.d == b.d) = D.bool true) ∧ (D.bool (a.n == b.n) = D.bool false) ∧ (rf (D.bool false)) ∧ (vB false = vB (a.b == b.b && (a.d == b.d && (a.n == b.n && (decide (a.fl = b.fl) && decide (a.cm = b.cm)))))) ∧ True)) ((D.bool (a.b == b.b) = D.bool true) ∧ (D.bool (a.d == b.d) = D.bool false) ∧ (rf (D.bool false)) ∧ (rf (D.bool false)) ∧ (vB false = vB (a.b == b.b && (a.d == b.d && (a.n == b.n && (decide (a.fl = b.fl) && decide (a.cm = b.cm)))))) ∧ True)) ((D.bool (a.b == b.b) = D.bool false) ∧ (rf (D.bool false)) ∧ (rf (D.bool false)) ∧ (rf (D.bool false)) ∧ (vB false = vB (a.b == b.b && (a.d == b.d && (a.n == b.n && (decide (a.fl = b.fl) && decide (a.cm = b.cm)))))) ∧ True)) (h := {H := [(1, [(24, .call [] (.d (.bool (decide (a.fl = b.fl)))) []), (31, .call [] (.d (.bool (decide (a.cm = b.cm)))) [])])]}) (subs := []) (ws := []) (ρ := []) (by kernel_rfl) ?_
 repeat' (with_reducible first|exact ⟨⟩|apply And.intro|(first|apply zA|apply zB|apply zC|apply zD|apply zE|apply zF|apply zG)<;>intro)
 all_goals first | exact k1 | exact k2 | rfl | (simp_all; done) | skip
theorem same29 (a b : Sq) (ha : SqOk a) : FnOK Tryz.prog 35 [.d (sqD a), .d (sqD b)] [] (.d (.bool (decide (a = b)))) [] := by
 rw [sq_dec]
 exact same29w a b (ckD_equal a.fl b.fl (by have := ha.fl; omega)) (same23 a.cm b.cm _ (ivD_equal a.cm b.cm (by have := ha.cm; omega)))
end Go.Proofs.YtalpfhpeaaocmaaGreat.C11
end
section
namespace Go.Proofs.YtalpfhpeaaocmaaGreat.C11
open Sx Go.RowKit C06
theorem timB_iff {c : Ck} : timB c = true ↔ (0 ≤ c.s ∧ c.s ≤ 1099511627776) ∧ c.r > 0 ∧ c.r ≤ 1073741824 := by
 unfold timB tickB
 simp only [Bool.and_eq_true, decide_eq_true_eq]
def sqZ : Ob := .box [.d (.int .i64 0), .d (.str []), .d (.int .i64 0), .raw (.slice none 0 0), .raw (.slice none 0 0)]
end Go.Proofs.YtalpfhpeaaocmaaGreat.C11
end
section
namespace Go.Proofs.YtalpfhpeaaocmaaGreat.C11
open Sx Go.RowKit C06
def ivD_IB (g : Nat) (u : Int) (s : Sq) (l : List Iv) (j : Nat) : St := ⟨[(0, .d (.sl (l.map ivD))), (1, .fn g [.ptr 0 0, .ptr 1 0]), (7, .d (.int .i64 l.length)), (8, .d (.int .i64 j))], [(0, .box [.d (.int .i64 u)]), (1, sqB s)]⟩
def ivD_IOB (g : Nat) (u : Int) (s : Sq) (m : Int) : St := ⟨[(4, .d (.int .i64 m))], [(0, .box [.d (.int .i64 u)]), (1, sqB s)]⟩
theorem ivD_irB (g : Nat) (u : Int) (s : Sq) (l : List Iv) (hl : l.length < 1073741824) (j : Nat) (x : Iv) (hn : l[j]? = some x) (hx : FnOK Tryz.prog g [.d (ivD x), .ptr 0 0, .ptr 1 0] [.box [.d (.int .i64 u)], sqB s] (.d (.bool false)) [.box [.d (.int .i64 u)], sqB s]) : Runs Tryz.prog 2 (loopN Tryz.prog 123 0) (St.as (ivD_IB g u s l j) 19) (.normal) (St.as (ivD_IB g u s l (j+1)) 19) := by
 refine round_wp (p := condP (decide ((↑j : Int) < (↑l.length : Int))) (((0 : Int) ≤ (↑j : Int)) ∧ ((List.map ivD l)[(↑j : Int).toNat]? = some (ivD x)) ∧ (FnOK Tryz.prog g [AV.d (ivD x), AV.ptr 0 0, AV.ptr 1 0] [Ob.box [vI u], Ob.box [vI s.b, vS s.d, vI s.n, vL (List.map ckD s.fl), vL (List.map ivD s.cm)]] (vB false) [Ob.box [vI u], Ob.box [vI s.b, vS s.d, vI s.n, vL (List.map ckD s.fl), vL (List.map ivD s.cm)]]) ∧ (rf (vL (List.map ivD l))) ∧ (rf (AV.fn g [AV.ptr 0 0, AV.ptr 1 0])) ∧ (rf (vI (↑l.length : Int))) ∧ (vI (IntKind.i64.wrap ((↑j : Int) + (1 : Int))) = vI (↑(j + 1) : Int)) ∧ (rf (Ob.box [vI u])) ∧ (rf (Ob.box [vI s.b, vS s.d, vI s.n, vL (List.map ckD s.fl), vL (List.map ivD s.cm)])) ∧ True) (False)) (h := {els := [(12, .el (ivD x)), (11, .call [0, 1] (.d (.bool false)) [.box [.d (.int .i64 u)], sqB s])]}) (subs := []) (ws := []) (ρ := []) (by kernel_rfl) ?_
 have hj := get_lt hn
 have hi := inc_i64 (j := j) (by omega)
 try simp only [hi]
 refine condP_t (by rw [decide_eq_true_eq]; omega) ?_
 repeat' (with_reducible first|exact ⟨⟩|apply And.intro|(first|apply zA|apply zB|apply zC|apply zD|apply zE|apply zF|apply zG)<;>intro)
 all_goals first | exact hx | exact el_map hn rfl | rfl | omega | skip
theorem ivD_ieB (g : Nat) (u : Int) (s : Sq) (l : List Iv) (hl : l.length < 1073741824) (j : Nat) (x : Iv) (hn : l[j]? = some x) (hx : FnOK Tryz.prog g [.d (ivD x), .ptr 0 0, .ptr 1 0] [.box [.d (.int .i64 u)], sqB s] (.d (.bool true)) [.box [.d (.int .i64 u)], sqB s]) : Runs Tryz.prog 2 (loopN Tryz.prog 123 0) (St.as (ivD_IB g u s l j) 19) (.ret) (St.as (ivD_IOB g u s j) 19) := by
 refine round_wp (p := condP (decide ((↑j : Int) < (↑l.length : Int))) (((0 : Int) ≤ (↑j : Int)) ∧ ((List.map ivD l)[(↑j : Int).toNat]? = some (ivD x)) ∧ (FnOK Tryz.prog g [AV.d (ivD x), AV.ptr 0 0, AV.ptr 1 0] [Ob.box [vI u], Ob.box [vI s.b, vS s.d, vI s.n, vL (List.map ckD s.fl), vL (List.map ivD s.cm)]] (vB true) [Ob.box [vI u], Ob.box [vI s.b, vS s.d, vI s.n, vL (List.map ckD s.fl), vL (List.map ivD s.cm)]]) ∧ (rf (vI (↑j : Int))) ∧ (rf (Ob.box [vI u])) ∧ (rf (Ob.box [vI s.b, vS s.d, vI s.n, vL (List.map ckD s.fl), vL (List.map ivD s.cm)])) ∧ True) (False)) (h := {els := [(12, .el (ivD x)), (11, .call [0, 1] (.d (.bool true)) [.box [.d (.int .i64 u)], sqB s])]}) (subs := []) (ws := []) (ρ := []) (by kernel_rfl) ?_
 have hj := get_lt hn
 have hi := inc_i64 (j := j) (by omega)
 try simp only [hi]
 refine condP_t (by rw [decide_eq_true_eq]; omega) ?_
 repeat' (with_reducible first|exact ⟨⟩|apply And.intro|(first|apply zA|apply zB|apply zC|apply zD|apply zE|apply zF|apply zG)<;>intro)
 all_goals first | exact hx | exact el_map hn rfl | rfl | omega | skip
theorem ivD_iqB (g : Nat) (u : Int) (s : Sq) (l : List Iv) : Runs Tryz.prog 2 (loopN Tryz.prog 123 0) (St.as (ivD_IB g u s l l.length) 19) (.exit 0) (St.as (ivD_IB g u s l l.length) 19) := by
 refine round_wp (p := condP (decide ((↑l.length : Int) < (↑l.length : Int))) (False) ((rf (vL (List.map ivD l))) ∧ (rf (AV.fn g [AV.ptr 0 0, AV.ptr 1 0])) ∧ (rf (vI (↑l.length : Int))) ∧ (rf (vI (↑l.length : Int))) ∧ (rf (Ob.box [vI u])) ∧ (rf (Ob.box [vI s.b, vS s.d, vI s.n, vL (List.map ckD s.fl), vL (List.map ivD s.cm)])) ∧ True)) (h := {}) (subs := []) (ws := []) (ρ := []) (by kernel_rfl) ?_
 repeat' (with_reducible first|exact ⟨⟩|apply And.intro|(first|apply zA|apply zB|apply zC|apply zD|apply zE|apply zF|apply zG)<;>intro)
 all_goals (try simp only [List.length_map, AV.d.injEq, D.int.injEq, D.bool.injEq, D.str.injEq, D.sl.injEq, true_and, and_true, decide_eq_true_eq, decide_eq_false_iff_not, decide_eq_decide])
 all_goals (try simp only [List.length_map] at *)
 all_goals first | rfl | omega
theorem ivD_inB (g : Nat) (u : Int) (s : Sq) (l : List Iv) (hL : Loops Tryz.prog 2 (loopN Tryz.prog 123 0) ((ivD_IB g u s l 0).as 19) (.exit 0) ((ivD_IB g u s l l.length).as 19)) : FnOK Tryz.prog 123 ([.d (.sl (l.map ivD)), .fn g [.ptr 0 0, .ptr 1 0]]) ([.box [.d (.int .i64 u)], sqB s]) (.d (.int .i64 (-1))) ([.box [.d (.int .i64 u)], sqB s]) := by
 refine fnOK_wp (p := (rf (vL (List.map ivD l))) ∧ (rf (AV.fn g [AV.ptr 0 0, AV.ptr 1 0])) ∧ (vI (↑(List.map ivD l).length : Int) = vI (↑l.length : Int)) ∧ (rf (vI 0)) ∧ (rf (Ob.box [vI u])) ∧ (rf (Ob.box [vI s.b, vS s.d, vI s.n, vL (List.map ckD s.fl), vL (List.map ivD s.cm)])) ∧ (LoopsS Tryz.prog 2 (loopN Tryz.prog 123 0) (ivD_IB g u s l 0) (Exit.exit 0) (ivD_IB g u s l l.length) 19) ∧ (rf (vI (-1 : Int))) ∧ (rf (Ob.box [vI u])) ∧ (rf (Ob.box [vI s.b, vS s.d, vI s.n, vL (List.map ckD s.fl), vL (List.map ivD s.cm)])) ∧ True) (h := {}) (subs := [⟨[], [], ivD_IB g u s l 0, .exit 0, ivD_IB g u s l l.length⟩]) (ws := []) (ρ := []) (by kernel_rfl) ?_
 simp only [List.length_map]
 repeat' (with_reducible first|exact ⟨⟩|apply And.intro|(first|apply zA|apply zB|apply zC|apply zD|apply zE|apply zF|apply zG)<;>intro)
 all_goals first | exact hL | rfl | skip
theorem ivD_iyB (g : Nat) (u : Int) (s : Sq) (l : List Iv) (m : Nat) (hL : Loops Tryz.prog 2 (loopN Tryz.prog 123 0) ((ivD_IB g u s l 0).as 19) .ret ((ivD_IOB g u s m).as 19)) : FnOK Tryz.prog 123 ([.d (.sl (l.map ivD)), .fn g [.ptr 0 0, .ptr 1 0]]) ([.box [.d (.int .i64 u)], sqB s]) (.d (.int .i64 m)) ([.box [.d (.int .i64 u)], sqB s]) := by
 refine fnOK_wp (p := (rf (vL (List.map ivD l))) ∧ (rf (AV.fn g [AV.ptr 0 0, AV.ptr 1 0])) ∧ (vI (↑(List.map ivD l).length : Int) = vI (↑l.length : Int)) ∧ (rf (vI 0)) ∧ (rf (Ob.box [vI u])) ∧ (rf (Ob.box [vI s.b, vS s.d, vI s.n, vL (List.map ckD s.fl), vL (List.map ivD s.cm)])) ∧ (LoopsS Tryz.prog 2 (loopN Tryz.prog 123 0) (ivD_IB g u s l 0) Exit.ret (ivD_IOB g u s (↑m : Int)) 19) ∧ (rf (vI (↑m : Int))) ∧ (rf (Ob.box [vI u])) ∧ (rf (Ob.box [vI s.b, vS s.d, vI s.n, vL (List.map ckD s.fl), vL (List.map ivD s.cm)])) ∧ True) (h := {}) (subs := [⟨[], [], ivD_IB g u s l 0, .ret, ivD_IOB g u s m⟩]) (ws := []) (ρ := []) (by kernel_rfl) ?_
 simp only [List.length_map]
 repeat' (with_reducible first|exact ⟨⟩|apply And.intro|(first|apply zA|apply zB|apply zC|apply zD|apply zE|apply zF|apply zG)<;>intro)
 all_goals first | exact hL | rfl | skip
theorem ivD_firstB (g : Nat) (u : Int) (s : Sq) (F : Iv → Bool) (l : List Iv) (hl : l.length < 1073741824) (hF : ∀ x ∈ l, FnOK Tryz.prog g [.d (ivD x), .ptr 0 0, .ptr 1 0] [.box [.d (.int .i64 u)], sqB s] (.d (.bool (F x))) [.box [.d (.int .i64 u)], sqB s]) :
  ((∀ x ∈ l, F x = false) ∧ FnOK Tryz.prog 123 [.d (.sl (l.map ivD)), .fn g [.ptr 0 0, .ptr 1 0]] [.box [.d (.int .i64 u)], sqB s] (.d (.int .i64 (-1))) [.box [.d (.int .i64 u)], sqB s]) ∨ ∃ (m : Nat) (x : Iv), l[m]? = some x ∧ F x = true ∧ (∀ (j : Nat) (y : Iv), j < m → l[j]? = some y → F y = false) ∧ FnOK Tryz.prog 123 [.d (.sl (l.map ivD)), .fn g [.ptr 0 0, .ptr 1 0]] [.box [.d (.int .i64 u)], sqB s] (.d (.int .i64 m)) [.box [.d (.int .i64 u)], sqB s] := by
 rcases all_or (fun x => F x = false) l with h | ⟨m, x, h1, h2, h3⟩
 ·exact .inl ⟨h, ivD_inB g u s l (loops_n (I := fun j => (ivD_IB g u s l j).as 19) (by simp) l.length 0 (by omega) (fun j _ hj => ivD_irB g u s l hl j l[j] (get_of hj) (by have := hF _ (List.getElem_mem hj); rw [h _ (List.getElem_mem hj)] at this; exact this)) (ivD_iqB g u s l))⟩
 ·have hm := get_lt h1
  have h2 : F x = true := by cases hw : F x; exact absurd hw h2; rfl
  exact .inr ⟨m, x, h1, h2, h3, ivD_iyB g u s l m (loops_n (I := fun j => (ivD_IB g u s l j).as 19) (by simp) m 0 (by omega) (fun j _ hj => ivD_irB g u s l hl j (l[j]'(by omega)) (get_of _) (by have := hF (l[j]'(by omega)) (List.getElem_mem _); rw [h3 j _ hj (get_of _)] at this; exact this)) (ivD_ieB g u s l hl m x h1 (by have := hF _ (get_mem h1); rw [h2] at this; exact this)))⟩
theorem ivD_cfB (g : Nat) (u : Int) (s : Sq) (l : List Iv) (k : Int) (h : FnOK Tryz.prog 123 [.d (.sl (l.map ivD)), .fn g [.ptr 0 0, .ptr 1 0]] [.box [.d (.int .i64 u)], sqB s] (.d (.int .i64 k)) [.box [.d (.int .i64 u)], sqB s]) : FnOK Tryz.prog 115 ([.d (.sl (l.map ivD)), .fn g [.ptr 0 0, .ptr 1 0]]) ([.box [.d (.int .i64 u)], sqB s]) (.d (.bool (decide (k ≥ 0)))) ([.box [.d (.int .i64 u)], sqB s]) := by
 refine fnOK_wp (p := (FnOK Tryz.prog 123 [vL (List.map ivD l), AV.fn g [AV.ptr 0 0, AV.ptr 1 0]] [Ob.box [vI u], Ob.box [vI s.b, vS s.d, vI s.n, vL (List.map ckD s.fl), vL (List.map ivD s.cm)]] (vI k) [Ob.box [vI u], Ob.box [vI s.b, vS s.d, vI s.n, vL (List.map ckD s.fl), vL (List.map ivD s.cm)]]) ∧ (rf (vB (decide (k ≥ (0 : Int))))) ∧ (rf (Ob.box [vI u])) ∧ (rf (Ob.box [vI s.b, vS s.d, vI s.n, vL (List.map ckD s.fl), vL (List.map ivD s.cm)])) ∧ True) (h := {H := [(1, [(2, .call [0, 1] (.d (.int .i64 k)) [.box [.d (.int .i64 u)], sqB s])])]}) (subs := []) (ws := []) (ρ := []) (by kernel_rfl) ?_
 repeat' (with_reducible first|exact ⟨⟩|apply And.intro|(first|apply zA|apply zB|apply zC|apply zD|apply zE|apply zF|apply zG)<;>intro)
 all_goals first | exact h | rfl | skip
theorem ivD_containsB (g : Nat) (u : Int) (s : Sq) (F : Iv → Bool) (l : List Iv) (hl : l.length < 1073741824) (hF : ∀ x ∈ l, FnOK Tryz.prog g [.d (ivD x), .ptr 0 0, .ptr 1 0] [.box [.d (.int .i64 u)], sqB s] (.d (.bool (F x))) [.box [.d (.int .i64 u)], sqB s]) : FnOK Tryz.prog 115 [.d (.sl (l.map ivD)), .fn g [.ptr 0 0, .ptr 1 0]] [.box [.d (.int .i64 u)], sqB s] (.d (.bool (l.any F))) [.box [.d (.int .i64 u)], sqB s] := by
 rcases ivD_firstB g u s F l hl hF with ⟨h1, h2⟩ | ⟨m, x, h1, h2, -, h3⟩
 ·have e : l.any F = false := by rw [List.any_eq_false]; intro x hx; rw [h1 x hx]; simp
  rw [e]
  exact ivD_cfB g u s l _ h2
 ·have e : l.any F = true := List.any_eq_true.2 ⟨x, get_mem h1, h2⟩
  rw [e]
  have := ivD_cfB g u s l _ h3
  rw [decide_eq_true (p := (m : Int) ≥ 0) (by omega)] at this
  exact this
def outB (s : Sq) (u : Int) (x : Iv) : Bool := decide (x.1 < u) || decide (x.2 > s.n)
theorem may72 (s : Sq) (u : Int) (x : Iv) : FnOK Tryz.prog 119 ([.d (ivD x), .ptr 0 0, .ptr 1 0]) ([.box [.d (.int .i64 u)], sqB s]) (.d (.bool (outB s u x))) ([.box [.d (.int .i64 u)], sqB s]) := by
 refine fnOK_wp (p := condP (decide (x.fst < u)) ((D.bool (decide (x.fst < u)) = D.bool true) ∧ (vB true = vB (outB s u x)) ∧ (rf (Ob.box [vI u])) ∧ (rf (Ob.box [vI s.b, vS s.d, vI s.n, vL (List.map ckD s.fl), vL (List.map ivD s.cm)])) ∧ True) ((D.bool (decide (x.fst < u)) = D.bool false) ∧ (vB (decide (x.snd > s.n)) = vB (outB s u x)) ∧ (rf (Ob.box [vI u])) ∧ (rf (Ob.box [vI s.b, vS s.d, vI s.n, vL (List.map ckD s.fl), vL (List.map ivD s.cm)])) ∧ True)) (h := {}) (subs := []) (ws := []) (ρ := []) (by kernel_rfl) ?_
 unfold outB
 repeat' (with_reducible first|exact ⟨⟩|apply And.intro|(first|apply zA|apply zB|apply zC|apply zD|apply zE|apply zF|apply zG)<;>intro)
 all_goals first | rfl | exact dyes ‹_› | exact dno ‹_› | (rw [decide_eq_false (p := x.1 < u) (by assumption)]; rfl) | (rw [decide_eq_true (p := x.1 < u) (by assumption)]; rfl) | (refine congrArg (fun z => AV.d (.bool z)) ?_; simp_all; done) | (refine congrArg D.bool ?_; simp_all; done) | skip
def mayQ (s : Sq) (u : Int) (l : List Iv) : Bool := decide (sChk s = 0 ∧ s.b ≤ u ∧ u ≤ s.n ∧ iChk l = 0) && !l.any (outB s u)
theorem may45n (s : Sq) (u : Int) (l : List Iv) (e f : Int) (k1 : FnOK Tryz.prog 51 [.d (sqD s)] [] (.d (.int .i64 e)) []) (k2 : FnOK Tryz.prog 102 [.d (.sl (l.map ivD))] [] (.d (.int .i64 f)) []) (h : ¬(e = 0 ∧ s.b ≤ u ∧ u ≤ s.n ∧ f = 0)) : FnOK Tryz.prog 105 ([.d (sqD s), .d (.int .i64 u), .d (.sl (l.map ivD))]) ([]) (.d (.bool false)) ([]) := by
 refine fnOK_wp (p := condP (e != (0 : Int)) ((FnOK Tryz.prog 51 [AV.d (sqD s)] [] (vI e) []) ∧ (D.bool (e != (0 : Int)) = D.bool true) ∧ (rf (D.bool true)) ∧ (rf (D.bool true)) ∧ (rf (D.bool true)) ∧ (rf (vB false)) ∧ True) (condP (decide (u < s.b)) ((FnOK Tryz.prog 51 [AV.d (sqD s)] [] (vI e) []) ∧ (D.bool (e != (0 : Int)) = D.bool false) ∧ (D.bool (decide (u < s.b)) = D.bool true) ∧ (rf (D.bool true)) ∧ (rf (D.bool true)) ∧ (rf (vB false)) ∧ True) (condP (decide (u > s.n)) ((FnOK Tryz.prog 51 [AV.d (sqD s)] [] (vI e) []) ∧ (D.bool (e != (0 : Int)) = D.bool false) ∧ (D.bool (decide (u < s.b)) = D.bool false) ∧ (D.bool (decide (u > s.n)) = D.bool true) ∧ (rf (D.bool true)) ∧ (rf (vB false)) ∧ True) ((FnOK Tryz.prog 51 [AV.d (sqD s)] [] (vI e) []) ∧ (D.bool (e != (0 : Int)) = D.bool false) ∧ (D.bool (decide (u < s.b)) = D.bool false) ∧ (D.bool (decide (u > s.n)) = D.bool false) ∧ (FnOK Tryz.prog 102 [vL (List.map ivD l)] [] (vI f) []) ∧ (D.bool (f != (0 : Int)) = D.bool true) ∧ (rf (vB false)) ∧ True)))) (h := {H := [(1, [(1, .call [] (.d (.int .i64 e)) []), (17, .call [] (.d (.int .i64 f)) []), (19, .val (.bool true))])]}) (subs := []) (ws := []) (ρ := []) (by kernel_rfl) ?_
 repeat' (with_reducible first|exact ⟨⟩|apply And.intro|(first|apply zA|apply zB|apply zC|apply zD|apply zE|apply zF|apply zG)<;>intro)
 all_goals first | exact k1 | exact k2 | rfl | exact dyes (by omega) | (refine congrArg D.bool ?_; rw [bne_iff_ne]; omega) | (exfalso; omega) | (refine congrArg D.bool ?_; simp_all; done) | (exfalso; simp_all; omega) | skip
theorem may45y (s : Sq) (u : Int) (l : List Iv) (e f : Int) (k1 : FnOK Tryz.prog 51 [.d (sqD s)] [] (.d (.int .i64 e)) []) (k2 : FnOK Tryz.prog 102 [.d (.sl (l.map ivD))] [] (.d (.int .i64 f)) []) (h : e = 0 ∧ s.b ≤ u ∧ u ≤ s.n ∧ f = 0) (q : Bool) (k3 : FnOK Tryz.prog 115 [.d (.sl (l.map ivD)), .fn 119 [.ptr 0 0, .ptr 1 0]] [.box [.d (.int .i64 u)], sqB s] (.d (.bool q)) [.box [.d (.int .i64 u)], sqB s]) : FnOK Tryz.prog 105 ([.d (sqD s), .d (.int .i64 u), .d (.sl (l.map ivD))]) ([]) (.d (.bool (!q))) ([]) := by
 refine fnOK_wp (p := (FnOK Tryz.prog 51 [AV.d (sqD s)] [] (vI e) []) ∧ (D.bool (e != (0 : Int)) = D.bool false) ∧ (D.bool (decide (u < s.b)) = D.bool false) ∧ (D.bool (decide (u > s.n)) = D.bool false) ∧ (FnOK Tryz.prog 102 [vL (List.map ivD l)] [] (vI f) []) ∧ (D.bool (f != (0 : Int)) = D.bool false) ∧ (FnOK Tryz.prog 115 [vL (List.map ivD l), AV.fn 119 [AV.ptr 0 0, AV.ptr 1 0]] [Ob.box [vI u], Ob.box [vI s.b, vS s.d, vI s.n, vL (List.map ckD s.fl), vL (List.map ivD s.cm)]] (vB q) [Ob.box [vI u], Ob.box [vI s.b, vS s.d, vI s.n, vL (List.map ckD s.fl), vL (List.map ivD s.cm)]]) ∧ (rf (vB !q)) ∧ True) (h := {H := [(1, [(1, .call [] (.d (.int .i64 e)) []), (3, .val (.bool false)), (9, .val (.bool false)), (15, .val (.bool false)), (17, .call [] (.d (.int .i64 f)) []), (19, .val (.bool false))]), (3, [(2, .call [1032, 1024] (.d (.bool q)) [.box [.d (.int .i64 u)], sqB s])])]}) (subs := []) (ws := []) (ρ := []) (by kernel_rfl) ?_
 repeat' (with_reducible first|exact ⟨⟩|apply And.intro|(first|apply zA|apply zB|apply zC|apply zD|apply zE|apply zF|apply zG)<;>intro)
 all_goals first | exact k1 | exact k2 | exact k3 | rfl | exact dno (by omega) | (refine congrArg D.bool ?_; simp [h.1]; done) | (refine congrArg D.bool ?_; simp [h.2.2.2]; done) | skip
theorem may45 (s : Sq) (h : SqOk s) (u : Int) (l : List Iv) (hl : l.length < 100000) : FnOK Tryz.prog 105 [.d (sqD s), .d (.int .i64 u), .d (.sl (l.map ivD))] [] (.d (.bool (mayQ s u l))) [] := by
 have k1 := chk28 s (by have := h.fl; omega) (by have := h.cm; omega)
 have k2 := chk19 l (by omega)
 unfold mayQ
 by_cases g : sChk s = 0 ∧ s.b ≤ u ∧ u ≤ s.n ∧ iChk l = 0
 ·rw [decide_eq_true g, Bool.true_and]
  exact may45y s u l _ _ k1 k2 g _ (ivD_containsB _ u s (outB s u) l (by omega) fun x _ => may72 s u x)
 ·rw [decide_eq_false g, Bool.false_and]
  exact may45n s u l _ _ k1 k2 g
def part (c : Ck) (x : Iv) : Ck := { c with f := x.1, t := x.2 }
def lft (c : Ck) (all : List Iv) : List Ck := (rGaps all (ckI c)).map (part c)
def szS (n : Int) (x : Ck) : Int := IntKind.i64.wrap (n + cSz x)
def someB (c : Ck) (all : List Iv) : Bool := decide ((lft c all).foldl szS 0 < cSz c)
def ckB (c : Ck) : Ob := .box [.d (.int .i64 c.f), .d (.int .i64 c.t), .d (.int .i64 c.s), .d (.int .i64 c.r), .d (.bool c.l)]
def I47 (c : Ck) (g : List Iv) (m : List Ck) (n : Int) (j : Nat) : St := ⟨[(2, .ptr 0 0), (6, .own 1 5), (7, .d (.int .i64 n)), (14, .d (.sl (g.map ivD))), (15, .d (.int .i64 g.length)), (16, .d (.int .i64 j))], [(0, ckB c), (1, .row 5 (m.map ckD))]⟩
theorem r47 (c : Ck) (g : List Iv) (hl : g.length < 1000000) (m : List Ck) (hm : m.length < 1000000) (n : Int) (j : Nat) (x : Iv) (hn : g[j]? = some x) (k1 : FnOK Tryz.prog 81 [.d (ckD (part c x))] [] (.d (.int .i64 (cSz (part c x)))) []) : Runs Tryz.prog 0 (loopN Tryz.prog 108 0) (St.as (I47 c g m n j) 41) (.normal) (St.as (I47 c g (m ++ [part c x]) (szS n (part c x)) (j+1)) 41) := by
 refine round_wp (p := condP (decide ((↑j : Int) < (↑g.length : Int))) (((0 : Int) ≤ (↑j : Int)) ∧ ((List.map ivD g)[(↑j : Int).toNat]? = some (ivD x)) ∧ (((List.map ckD m).length + [D.agg (List.take 5 [D.int .i64 x.fst, D.int .i64 x.snd, D.int .i64 c.s, D.int .i64 c.r, D.bool c.l])].length) * 40 ≤ 140737488355328) ∧ (∀ (e : D), e ∈ chunk 5 1 [D.int .i64 x.fst, D.int .i64 x.snd, D.int .i64 c.s, D.int .i64 c.r, D.bool c.l] → e.cells.length = 5) ∧ (FnOK Tryz.prog 81 [AV.d (.agg [D.int .i64 x.fst, D.int .i64 x.snd, D.int .i64 c.s, D.int .i64 c.r, D.bool c.l])] [] (vI (cSz (part c x))) []) ∧ (rf (AV.ptr 0 0)) ∧ (rf (AV.own 1240 5)) ∧ (vI (IntKind.i64.wrap (n + cSz (part c x))) = vI (szS n (part c x))) ∧ (rf (vL (List.map ivD g))) ∧ (rf (vI (↑g.length : Int))) ∧ (vI (IntKind.i64.wrap ((↑j : Int) + (1 : Int))) = vI (↑(j + 1) : Int)) ∧ (rf (Ob.box [vI c.f, vI c.t, vI c.s, vI c.r, vB c.l])) ∧ (Ob.row 5 (List.map ckD m ++ [D.agg (List.take 5 [D.int .i64 x.fst, D.int .i64 x.snd, D.int .i64 c.s, D.int .i64 c.r, D.bool c.l])]) = Ob.row 5 (List.map ckD (m ++ [part c x]))) ∧ True) (False)) (h := {els := [(14, .el (ivD x))], H := [(9, [(2, .call [] (.d (.int .i64 (cSz (part c x)))) [])])]}) (subs := []) (ws := []) (ρ := []) (by kernel_rfl) ?_
 have hj := get_lt hn
 have hi := inc_i64 (j := j) (by omega)
 have hcm : (m ++ [part c x]).map ckD = m.map ckD ++ [ckD (part c x)] := by simp
 try simp only [hi]
 refine condP_t (by rw [decide_eq_true_eq]; omega) ?_
 repeat' (with_reducible first|exact ⟨⟩|apply And.intro|(first|apply zA|apply zB|apply zC|apply zD|apply zE|apply zF|apply zG)<;>intro)
 all_goals first | exact k1 | exact el_map hn rfl | rfl | omega | exact congrArg (Ob.row 5) hcm.symm | (simp; omega) | (simp [chunk, ckD, D.cells]; done) | skip
theorem q47 (c : Ck) (g : List Iv) (m : List Ck) (n : Int) : Runs Tryz.prog 0 (loopN Tryz.prog 108 0) (St.as (I47 c g m n g.length) 41) (.exit 0) (St.as (I47 c g m n g.length) 41) := by
 refine round_wp (p := condP (decide ((↑g.length : Int) < (↑g.length : Int))) (False) ((rf (AV.ptr 0 0)) ∧ (rf (AV.own 1 5)) ∧ (rf (vI n)) ∧ (rf (vL (List.map ivD g))) ∧ (rf (vI (↑g.length : Int))) ∧ (rf (vI (↑g.length : Int))) ∧ (rf (Ob.box [vI c.f, vI c.t, vI c.s, vI c.r, vB c.l])) ∧ (rf (Ob.row 5 (List.map ckD m))) ∧ True)) (h := {}) (subs := []) (ws := []) (ρ := []) (by kernel_rfl) ?_
 repeat' (with_reducible first|exact ⟨⟩|apply And.intro|(first|apply zA|apply zB|apply zC|apply zD|apply zE|apply zF|apply zG)<;>intro)
 all_goals first | rfl | omega
theorem wo47 (c : Ck) (l g : List Iv) (m : List Ck) (n : Int) (k1 : FnOK Tryz.prog 104 [.d (ckD c)] [] (.d (ivD (ckI c))) []) (k2 : FnOK Tryz.prog 103 [.d (.sl (l.map ivD)), .d (ivD (ckI c))] [] (.d (.sl (g.map ivD))) []) (k3 : FnOK Tryz.prog 81 [.d (ckD c)] [] (.d (.int .i64 (cSz c))) []) (hL : Loops Tryz.prog 0 (loopN Tryz.prog 108 0) ((I47 c g [] 0 0).as 41) (.exit 0) ((I47 c g m n g.length).as 41)) : FnOK Tryz.prog 108 ([.d (ckD c), .d (.sl (l.map ivD))]) ([]) (.tup [.d (.sl (m.map ckD)), .d (.bool (decide (n < cSz c)))]) ([]) := by
 refine fnOK_wp (p := (FnOK Tryz.prog 104 [AV.d (ckD c)] [] (AV.d (.agg [D.int .i64 (ckI c).fst, D.int .i64 (ckI c).snd])) []) ∧ (FnOK Tryz.prog 103 [vL (List.map ivD l), AV.d (.agg [D.int .i64 (ckI c).fst, D.int .i64 (ckI c).snd])] [] (vL (List.map ivD g)) []) ∧ (rf (AV.ptr 1016 0)) ∧ (rf (AV.own 901 5)) ∧ (rf (vI 0)) ∧ (rf (vL (List.map ivD g))) ∧ (vI (↑(List.map ivD g).length : Int) = vI (↑g.length : Int)) ∧ (rf (vI 0)) ∧ (rf (Ob.box [vI c.f, vI c.t, vI c.s, vI c.r, vB c.l])) ∧ (rf (Ob.row 5 [])) ∧ (LoopsS Tryz.prog 0 (loopN Tryz.prog 108 0) (I47 c g [] (0 : Int) 0) (Exit.exit 0) (I47 c g m n g.length) 41) ∧ (FnOK Tryz.prog 81 [AV.d (ckD c)] [] (vI (cSz c)) []) ∧ (rf (AV.tup [vL (List.map ckD m), vB (decide (n < cSz c))])) ∧ True) (h := {H := [(3, [(2, .call [] (.d (ivD (ckI c))) []), (3, .call [] (.d (.sl (g.map ivD))) [])]), (11, [(3, .call [] (.d (.int .i64 (cSz c))) [])])]}) (subs := [⟨[], [], I47 c g [] 0 0, .exit 0, I47 c g m n g.length⟩]) (ws := []) (ρ := []) (by kernel_rfl) ?_
 simp only [List.length_map]
 repeat' (with_reducible first|exact ⟨⟩|apply And.intro|(first|apply zA|apply zB|apply zC|apply zD|apply zE|apply zF|apply zG)<;>intro)
 all_goals first | exact k1 | exact k2 | exact k3 | exact hL | rfl | skip
theorem without47 (c : Ck) (l : List Iv) (hl : l.length < 100000) : FnOK Tryz.prog 108 [.d (ckD c), .d (.sl (l.map ivD))] [] (.tup [.d (.sl ((lft c l).map ckD)), .d (.bool (someB c l))]) [] := by
 have k2 := gaps15 l (by omega) (ckI c)
 have hg := rGaps_len l (ckI c)
 unfold someB lft
 generalize rGaps l (ckI c) = g at *
 have hL := loops_n (P := Tryz.prog) (k := 0) (c := loopN Tryz.prog 108 0) (e := .exit 0) (I := fun j => (I47 c g ((g.take j).map (part c)) (((g.take j).map (part c)).foldl szS 0) j).as 41) (by simp) g.length 0 (by omega) (fun j _ hj => by
  have hn := get_of hj
  show Runs _ _ _ _ _ ((I47 c g ((g.take (j + 1)).map (part c)) (((g.take (j + 1)).map (part c)).foldl szS 0) (j + 1)).as _)
  rw [take_snoc hn, List.map_append, List.foldl_append]
  exact r47 c g (by omega) _ (by rw [List.length_map, List.length_take]; omega) _ j _ hn (size37 _ trivial trivial)) (by simp only [List.take_length]; exact q47 c g _ _)
 exact wo47 c l g _ _ (ival74 c trivial trivial) k2 (size37 c trivial trivial) hL
def farB (e : Int) (c : Ck) : Bool := !c.l && decide (IntKind.i64.wrap (e - c.t) ≥ 96)
def loseC (e : Int) (c : Ck) : Ck := if farB e c = true then { c with l := true } else c
def rLose (s : Sq) : Sq × Bool := match s.cm.getLast? with | none => (s, false) | some z => ({ s with fl := s.fl.map (loseC z.2) }, s.fl.any (farB z.2))
theorem mapTo_skip (f : Ck → Ck) {l : List Ck} {j : Nat} {c : Ck} (h : l[j]? = some c) (hf : f c = c) : mapTo f l (j + 1) = mapTo f l j := by
 rw [← mapTo_set f h, hf]
 have := mapTo_get f h
 exact List.ext_getElem? fun i => by
  rw [List.getElem?_set]
  split
  ·next e => subst e; split; exact this.symm; exact (by rename_i g; rw [List.getElem?_eq_none (by omega)])
  ·rfl
def I50 (s : Sq) (e : Int) (q : Bool) (j : Nat) : St := ⟨[(1, .ptr 1 0), (3, .d (.int .i64 e)), (4, .d (.bool q)), (22, .d (.int .i64 s.fl.length)), (23, .d (.int .i64 j))], [(0, .row 5 ((mapTo (loseC e) s.fl j).map ckD)), (1, .box [.d (.int .i64 s.b), .d (.str s.d), .d (.int .i64 s.n), .own 0 5, .d (.sl (s.cm.map ivD))])]⟩
theorem r50a (s : Sq) (hl : s.fl.length < 1000000000) (e : Int) (q : Bool) (j : Nat) (c : Ck) (hn : s.fl[j]? = some c) (hm : (mapTo (loseC e) s.fl j)[j]? = some c) (h1 : c.l = true) (hs : (mapTo (loseC e) s.fl j).map ckD = (mapTo (loseC e) s.fl (j+1)).map ckD) : Runs Tryz.prog 1 (loopN Tryz.prog 111 0) (St.as (I50 s e q j) 49) (.normal) (St.as (I50 s e q (j+1)) 49) := by
 refine round_wp (p := condP (decide ((↑j : Int) < (↑s.fl.length : Int))) (((0 : Int) ≤ (↑j : Int) ∧ (↑j : Int) < (↑(List.map ckD (mapTo (loseC e) s.fl j)).length : Int)) ∧ (List.map ckD (mapTo (loseC e) s.fl j) ≠ []) ∧ ((↑j : Int).toNat < (List.map ckD (mapTo (loseC e) s.fl j)).length) ∧ (5 = 5) ∧ ((List.map ckD (mapTo (loseC e) s.fl j))[(↑j : Int).toNat]? = some (ckD c)) ∧ ((D.bool !c.l) = D.bool false) ∧ (rf (AV.ptr 1 0)) ∧ (rf (vI e)) ∧ (rf (vB q)) ∧ (rf (vI (↑s.fl.length : Int))) ∧ (vI (IntKind.i64.wrap ((↑j : Int) + (1 : Int))) = vI (↑(j + 1) : Int)) ∧ (Ob.row 5 (List.map ckD (mapTo (loseC e) s.fl j)) = Ob.row 5 (List.map ckD (mapTo (loseC e) s.fl (j + 1)))) ∧ (rf (Ob.box [vI s.b, vS s.d, vI s.n, AV.own 0 5, vL (List.map ivD s.cm)])) ∧ True) (False)) (h := {els := [(32, .el (ckD c))], H := [(9, [(5, .val (.bool false))])]}) (subs := []) (ws := []) (ρ := []) (by kernel_rfl) ?_
 have hj := get_lt hn
 have hi := inc_i64 (j := j) (by omega)
 have hln := mapTo_len (loseC e) s.fl j
 have hne : (mapTo (loseC e) s.fl j).map ckD ≠ [] := fun g => by
  have := congrArg List.length g
  rw [List.length_map, hln, List.length_nil] at this
  omega
 try simp only [hi]
 refine condP_t (by rw [decide_eq_true_eq]; omega) ?_
 try simp only [Int.toNat_natCast]
 repeat' (with_reducible first|exact ⟨⟩|apply And.intro|(first|apply zA|apply zB|apply zC|apply zD|apply zE|apply zF|apply zG)<;>intro)
 all_goals first | exact hne | exact el_map hm rfl | exact hs | exact congrArg (Ob.row 5) hs | rfl | omega | (simp [hln]; omega) | (refine congrArg D.bool ?_; simp [h1]; done) | exact dyes (by omega) | exact dno (by omega) | skip
theorem r50b (s : Sq) (hl : s.fl.length < 1000000000) (e : Int) (q : Bool) (j : Nat) (c : Ck) (hn : s.fl[j]? = some c) (hm : (mapTo (loseC e) s.fl j)[j]? = some c) (h1 : c.l = false) (h2 : ¬IntKind.i64.wrap (e - c.t) ≥ 96) (hs : (mapTo (loseC e) s.fl j).map ckD = (mapTo (loseC e) s.fl (j+1)).map ckD) : Runs Tryz.prog 1 (loopN Tryz.prog 111 0) (St.as (I50 s e q j) 49) (.normal) (St.as (I50 s e q (j+1)) 49) := by
 refine round_wp (p := condP (decide ((↑j : Int) < (↑s.fl.length : Int))) (((0 : Int) ≤ (↑j : Int) ∧ (↑j : Int) < (↑(List.map ckD (mapTo (loseC e) s.fl j)).length : Int)) ∧ (List.map ckD (mapTo (loseC e) s.fl j) ≠ []) ∧ ((↑j : Int).toNat < (List.map ckD (mapTo (loseC e) s.fl j)).length) ∧ (5 = 5) ∧ ((List.map ckD (mapTo (loseC e) s.fl j))[(↑j : Int).toNat]? = some (ckD c)) ∧ ((D.bool !c.l) = D.bool true) ∧ (List.map ckD (mapTo (loseC e) s.fl j) ≠ []) ∧ ((↑j : Int).toNat < (List.map ckD (mapTo (loseC e) s.fl j)).length) ∧ (5 = 5) ∧ ((List.map ckD (mapTo (loseC e) s.fl j))[(↑j : Int).toNat]? = some (ckD c)) ∧ (D.bool (decide (IntKind.i64.wrap (e - c.t) ≥ (96 : Int))) = D.bool false) ∧ (rf (AV.ptr 1 0)) ∧ (rf (vI e)) ∧ (rf (vB q)) ∧ (rf (vI (↑s.fl.length : Int))) ∧ (vI (IntKind.i64.wrap ((↑j : Int) + (1 : Int))) = vI (↑(j + 1) : Int)) ∧ (Ob.row 5 (List.map ckD (mapTo (loseC e) s.fl j)) = Ob.row 5 (List.map ckD (mapTo (loseC e) s.fl (j + 1)))) ∧ (rf (Ob.box [vI s.b, vS s.d, vI s.n, AV.own 0 5, vL (List.map ivD s.cm)])) ∧ True) (False)) (h := {els := [(32, .el (ckD c)), (39, .el (ckD c))], H := [(9, [(5, .val (.bool true)), (12, .val (.bool false))])]}) (subs := []) (ws := []) (ρ := []) (by kernel_rfl) ?_
 have hj := get_lt hn
 have hi := inc_i64 (j := j) (by omega)
 have hln := mapTo_len (loseC e) s.fl j
 have hne : (mapTo (loseC e) s.fl j).map ckD ≠ [] := fun g => by
  have := congrArg List.length g
  rw [List.length_map, hln, List.length_nil] at this
  omega
 try simp only [hi]
 refine condP_t (by rw [decide_eq_true_eq]; omega) ?_
 try simp only [Int.toNat_natCast]
 repeat' (with_reducible first|exact ⟨⟩|apply And.intro|(first|apply zA|apply zB|apply zC|apply zD|apply zE|apply zF|apply zG)<;>intro)
 all_goals first | exact hne | exact el_map hm rfl | exact hs | exact congrArg (Ob.row 5) hs | rfl | omega | (simp [hln]; omega) | (refine congrArg D.bool ?_; simp [h1]; done) | exact dyes (by omega) | exact dno (by omega) | skip
theorem r50c (s : Sq) (hl : s.fl.length < 1000000000) (e : Int) (q : Bool) (j : Nat) (c : Ck) (hn : s.fl[j]? = some c) (hm : (mapTo (loseC e) s.fl j)[j]? = some c) (h1 : c.l = false) (h2 : IntKind.i64.wrap (e - c.t) ≥ 96) (hs : ((mapTo (loseC e) s.fl j).map ckD).set j (ckD { c with l := true }) = (mapTo (loseC e) s.fl (j+1)).map ckD) : Runs Tryz.prog 1 (loopN Tryz.prog 111 0) (St.as (I50 s e q j) 49) (.normal) (St.as (I50 s e true (j+1)) 49) := by
 refine round_wp (p := condP (decide ((↑j : Int) < (↑s.fl.length : Int))) (((0 : Int) ≤ (↑j : Int) ∧ (↑j : Int) < (↑(List.map ckD (mapTo (loseC e) s.fl j)).length : Int)) ∧ (List.map ckD (mapTo (loseC e) s.fl j) ≠ []) ∧ ((↑j : Int).toNat < (List.map ckD (mapTo (loseC e) s.fl j)).length) ∧ (5 = 5) ∧ ((List.map ckD (mapTo (loseC e) s.fl j))[(↑j : Int).toNat]? = some (ckD c)) ∧ ((D.bool !c.l) = D.bool true) ∧ (List.map ckD (mapTo (loseC e) s.fl j) ≠ []) ∧ ((↑j : Int).toNat < (List.map ckD (mapTo (loseC e) s.fl j)).length) ∧ (5 = 5) ∧ ((List.map ckD (mapTo (loseC e) s.fl j))[(↑j : Int).toNat]? = some (ckD c)) ∧ (D.bool (decide (IntKind.i64.wrap (e - c.t) ≥ (96 : Int))) = D.bool true) ∧ (List.map ckD (mapTo (loseC e) s.fl j) ≠ []) ∧ ((↑j : Int).toNat < (List.map ckD (mapTo (loseC e) s.fl j)).length) ∧ (5 = 5) ∧ ((List.map ckD (mapTo (loseC e) s.fl j))[(↑j : Int).toNat]? = some (ckD c)) ∧ (rf (AV.ptr 1 0)) ∧ (rf (vI e)) ∧ (rf (vB true)) ∧ (rf (vI (↑s.fl.length : Int))) ∧ (vI (IntKind.i64.wrap ((↑j : Int) + (1 : Int))) = vI (↑(j + 1) : Int)) ∧ (Ob.row 5 ((List.map ckD (mapTo (loseC e) s.fl j)).set (↑j : Int).toNat (D.agg (List.take 4 [D.int .i64 c.f, D.int .i64 c.t, D.int .i64 c.s, D.int .i64 c.r, D.bool c.l] ++ [D.bool true] ++ List.drop 5 [D.int .i64 c.f, D.int .i64 c.t, D.int .i64 c.s, D.int .i64 c.r, D.bool c.l]))) = Ob.row 5 (List.map ckD (mapTo (loseC e) s.fl (j + 1)))) ∧ (rf (Ob.box [vI s.b, vS s.d, vI s.n, AV.own 0 5, vL (List.map ivD s.cm)])) ∧ True) (False)) (h := {els := [(32, .el (ckD c)), (39, .el (ckD c)), (46, .el (ckD c))], H := [(9, [(5, .val (.bool true)), (12, .val (.bool true))])]}) (subs := []) (ws := []) (ρ := []) (by kernel_rfl) ?_
 have hj := get_lt hn
 have hi := inc_i64 (j := j) (by omega)
 have hln := mapTo_len (loseC e) s.fl j
 have hne : (mapTo (loseC e) s.fl j).map ckD ≠ [] := fun g => by
  have := congrArg List.length g
  rw [List.length_map, hln, List.length_nil] at this
  omega
 try simp only [hi]
 refine condP_t (by rw [decide_eq_true_eq]; omega) ?_
 try simp only [Int.toNat_natCast]
 repeat' (with_reducible first|exact ⟨⟩|apply And.intro|(first|apply zA|apply zB|apply zC|apply zD|apply zE|apply zF|apply zG)<;>intro)
 all_goals first | exact hne | exact el_map hm rfl | exact hs | exact congrArg (Ob.row 5) hs | rfl | omega | (simp [hln]; omega) | (refine congrArg D.bool ?_; simp [h1]; done) | exact dyes (by omega) | exact dno (by omega) | skip
theorem q50 (s : Sq) (e : Int) (q : Bool) : Runs Tryz.prog 1 (loopN Tryz.prog 111 0) (St.as (I50 s e q s.fl.length) 49) (.exit 0) (St.as (I50 s e q s.fl.length) 49) := by
 refine round_wp (p := condP (decide ((↑s.fl.length : Int) < (↑s.fl.length : Int))) (((0 : Int) ≤ (↑s.fl.length : Int) ∧ (↑s.fl.length : Int) < (↑(List.map ckD (mapTo (loseC e) s.fl s.fl.length)).length : Int)) ∧ (False)) ((rf (AV.ptr 1 0)) ∧ (rf (vI e)) ∧ (rf (vB q)) ∧ (rf (vI (↑s.fl.length : Int))) ∧ (rf (vI (↑s.fl.length : Int))) ∧ (rf (Ob.row 5 (List.map ckD (mapTo (loseC e) s.fl s.fl.length)))) ∧ (rf (Ob.box [vI s.b, vS s.d, vI s.n, AV.own 0 5, vL (List.map ivD s.cm)])) ∧ True)) (h := {}) (subs := []) (ws := []) (ρ := []) (by kernel_rfl) ?_
 repeat' (with_reducible first|exact ⟨⟩|apply And.intro|(first|apply zA|apply zB|apply zC|apply zD|apply zE|apply zF|apply zG)<;>intro)
 all_goals first | rfl | omega
theorem lose50n (s : Sq) (h : s.cm.length = 0) : FnOK Tryz.prog 111 ([oAV s]) ([.row 5 (s.fl.map ckD)]) (.d (.bool false)) ([.row 5 (s.fl.map ckD)]) := by
 refine fnOK_wp (p := (D.bool ((↑(List.map ivD s.cm).length : Int) == (0 : Int)) = D.bool true) ∧ (rf (vB false)) ∧ (rf (Ob.row 5 (List.map ckD s.fl))) ∧ True) (h := {H := [(1, [(3, .val (.bool true))])]}) (subs := []) (ws := []) (ρ := []) (by kernel_rfl) ?_
 simp only [List.length_map]
 repeat' (with_reducible first|exact ⟨⟩|apply And.intro|(first|apply zA|apply zB|apply zC|apply zD|apply zE|apply zF|apply zG)<;>intro)
 all_goals first | rfl | (refine congrArg D.bool ?_; simp [h]; done) | skip
theorem lose50y (s : Sq) (hc : 0 < s.cm.length) (hc2 : s.cm.length < 1000000) (z : Iv) (q : Bool) (hw : IntKind.i64.wrap ((s.cm.length : Int) - 1) = (s.cm.length : Int) - 1) (hz : (s.cm.map ivD)[((s.cm.length : Int) - 1).toNat]? = some (ivD z)) (hL : Loops Tryz.prog 1 (loopN Tryz.prog 111 0) ((I50 s z.2 false 0).as 49) (.exit 0) ((I50 s z.2 q s.fl.length).as 49)) : FnOK Tryz.prog 111 ([oAV s]) ([.row 5 (s.fl.map ckD)]) (.d (.bool q)) ([.row 5 ((s.fl.map (loseC z.2)).map ckD)]) := by
 refine fnOK_wp (p := (D.bool ((↑(List.map ivD s.cm).length : Int) == (0 : Int)) = D.bool false) ∧ ((0 : Int) ≤ IntKind.i64.wrap ((↑(List.map ivD s.cm).length : Int) - (1 : Int))) ∧ ((List.map ivD s.cm)[(IntKind.i64.wrap ((↑(List.map ivD s.cm).length : Int) - (1 : Int))).toNat]? = some (ivD z)) ∧ (rf (AV.ptr 1008 0)) ∧ (rf (vI z.snd)) ∧ (rf (vB false)) ∧ (vI (↑(List.map ckD s.fl).length : Int) = vI (↑s.fl.length : Int)) ∧ (rf (vI 0)) ∧ (Ob.row 5 (List.map ckD s.fl) = Ob.row 5 (List.map ckD (mapTo (loseC z.snd) s.fl 0))) ∧ (rf (Ob.box [vI s.b, vS s.d, vI s.n, AV.own 0 5, vL (List.map ivD s.cm)])) ∧ (LoopsS Tryz.prog 1 (loopN Tryz.prog 111 0) (I50 s z.snd false 0) (Exit.exit 0) (I50 s z.snd q s.fl.length) 49) ∧ (rf (vB q)) ∧ (Ob.row 5 (List.map ckD (mapTo (loseC z.snd) s.fl s.fl.length)) = Ob.row 5 (List.map ckD (List.map (loseC z.snd) s.fl))) ∧ True) (h := {els := [(12, .el (ivD z))], H := [(1, [(3, .val (.bool false))])]}) (subs := [⟨[], [], I50 s z.2 false 0, .exit 0, I50 s z.2 q s.fl.length⟩]) (ws := []) (ρ := []) (by kernel_rfl) ?_
 have h0 := mapTo_zero (loseC z.2) s.fl
 have h1 := mapTo_end (loseC z.2) s.fl
 simp only [List.length_map, hw]
 repeat' (with_reducible first|exact ⟨⟩|apply And.intro|(first|apply zA|apply zB|apply zC|apply zD|apply zE|apply zF|apply zG)<;>intro)
 all_goals first | exact hL | exact hz | rfl | (rw [h0]; done) | (rw [h1]; done) | (rw [h0]; rfl) | (rw [h1]; rfl) | omega | (refine congrArg D.bool ?_; rw [beq_eq_false_iff_ne]; omega) | skip
theorem lose50 (s : Sq) (hf : s.fl.length < 1000000000) (hc : s.cm.length < 1000000) : FnOK Tryz.prog 111 [oAV s] [.row 5 (s.fl.map ckD)] (.d (.bool (rLose s).2)) [.row 5 ((rLose s).1.fl.map ckD)] := by
 unfold rLose
 by_cases h : s.cm = []
 ·rw [h]
  have := lose50n s (by rw [h]; rfl)
  exact this
 ·have hpos := List.length_pos_iff.2 h
  have hw : IntKind.i64.wrap ((s.cm.length : Int) - 1) = (s.cm.length : Int) - 1 := wrap_in (by omega) (by omega)
  obtain ⟨z, hz⟩ : ∃ z, s.cm.getLast? = some z := ⟨_, List.getLast?_eq_some_getLast h⟩
  rw [hz]
  have hz' : (s.cm.map ivD)[((s.cm.length : Int) - 1).toNat]? = some (ivD z) := by
   rw [List.getLast?_eq_getElem?] at hz
   rw [show ((s.cm.length : Int) - 1).toNat = s.cm.length - 1 by omega, List.getElem?_map, hz]; rfl
  have hL := loops_n (P := Tryz.prog) (k := 1) (c := loopN Tryz.prog 111 0) (e := .exit 0) (I := fun j => (I50 s z.2 ((s.fl.take j).any (farB z.2)) j).as 49) (by simp) s.fl.length 0 (by omega) (fun j _ hj => by
   have hn := get_of hj
   show Runs _ _ _ _ _ ((I50 s z.2 ((s.fl.take (j + 1)).any (farB z.2)) (j + 1)).as _)
   rw [any_snoc hn]
   have hm := mapTo_get (loseC z.2) hn
   have hs := mapTo_set (loseC z.2) hn
   by_cases g : farB z.2 s.fl[j] = true
   ·rw [g, Bool.or_true]
    have hfc : loseC z.2 s.fl[j] = { s.fl[j] with l := true } := by unfold loseC; rw [if_pos g]
    unfold farB at g
    rw [Bool.and_eq_true, Bool.not_eq_true', decide_eq_true_eq] at g
    rw [hfc] at hs
    exact r50c s hf _ _ j _ hn hm g.1 g.2 (by rw [← List.map_set, hs])
   ·have g' : farB z.2 s.fl[j] = false := by cases w : farB z.2 s.fl[j]; rfl; exact absurd w g
    have hfc : loseC z.2 s.fl[j] = s.fl[j] := by unfold loseC; rw [if_neg g]
    rw [g', Bool.or_false]
    have hk := mapTo_skip (loseC z.2) hn hfc
    cases hcl : s.fl[j].l
    ·refine r50b s hf _ _ j _ hn hm hcl ?_ (by rw [hk])
     intro w
     exact g (by unfold farB; rw [hcl, decide_eq_true w]; rfl)
    ·exact r50a s hf _ _ j _ hn hm hcl (by rw [hk])) (by simp only [List.take_length]; exact q50 s _ _)
  exact lose50y s hpos hc z _ hw hz' hL
end Go.Proofs.YtalpfhpeaaocmaaGreat.C11
end
section
namespace Go.Proofs.YtalpfhpeaaocmaaGreat.C11
open Sx Go.RowKit C06
def spare (p : List Iv × Bool) : Nat := p.1.length + if p.2 then 0 else 1
theorem stA_spare (x : Iv) (p : List Iv × Bool) (y : Iv) : spare (stA x p y) ≤ spare p + 1 := by
 obtain ⟨m, q⟩ := p
 unfold stA spare
 have h1 := pPut_len m x
 have h2 := pPut_len (pPut m x) y
 have h3 := pPut_len m y
 cases q
 ·by_cases g : x.1 ≤ y.1
  ·rw [if_pos ⟨rfl, g⟩]
   simp only [Bool.false_eq_true, if_false, if_true]
   omega
  ·rw [if_neg (fun h => g h.2)]
   simp only [Bool.false_eq_true, if_false]
   omega
 ·rw [if_neg (fun h => by cases h.1)]
  simp only [if_true]
  omega
theorem fold_spare (x : Iv) : ∀ (s : List Iv) (p : List Iv × Bool), spare (s.foldl (stA x) p) ≤ spare p + s.length
 | [], p => Nat.le_refl _
 | y :: s, p => by
  have h1 := fold_spare x s (stA x p y)
  have h2 := stA_spare x p y
  rw [List.length_cons]
  show spare (s.foldl (stA x) (stA x p y)) ≤ _
  omega
theorem rAdd_len1 (s : List Iv) (x : Iv) : (rAdd s x).length ≤ s.length + 1 := by
 unfold rAdd
 split
 ·omega
 ·unfold pAdd
  have h := fold_spare x s ([], false)
  have e : spare ([], false) = 1 := rfl
  rw [e] at h
  unfold pAddF
  generalize s.foldl (stA x) ([], false) = p at *
  obtain ⟨m, q⟩ := p
  unfold spare at h
  have h3 := pPut_len m x
  cases q
  ·rw [if_neg (by simp)]
   simp only [Bool.false_eq_true, if_false] at h
   show (pPut m x).length ≤ _
   omega
  ·rw [if_pos rfl]
   simp only [if_true] at h
   show m.length ≤ _
   omega
theorem adds_len : ∀ (l s : List Iv), (l.foldl rAdd s).length ≤ s.length + l.length
 | [], s => Nat.le_refl _
 | x :: l, s => by
  have h1 := adds_len l (rAdd s x)
  have h2 := rAdd_len1 s x
  rw [List.length_cons]
  show (l.foldl rAdd (rAdd s x)).length ≤ _
  omega
theorem adds_ok : ∀ {l s : List Iv}, Ok s → (∀ x ∈ l, mayB x = true) → Ok (l.foldl rAdd s) ∧ ∀ n, has (l.foldl rAdd s) n = (has s n || has l n)
 | [], s, h, _ => ⟨h, fun n => by show has s n = (has s n || false); rw [Bool.or_false]⟩
 | x :: l, s, h, hl => by
  obtain ⟨a1, a2⟩ := add_has h (hl x (by simp))
  obtain ⟨b1, b2⟩ := adds_ok a1 fun y hy => hl y (List.mem_cons_of_mem _ hy)
  refine ⟨b1, fun n => ?_⟩
  show has (l.foldl rAdd (rAdd s x)) n = _
  rw [b2, a2, has_cons, Bool.or_assoc]
  rfl
def ackAll (s : Sq) (u : Int) (l : List Iv) : List Iv := l.foldl rAdd (rAdd s.cm (s.b, u))
theorem ackAll_len (s : Sq) (u : Int) (l : List Iv) : (ackAll s u l).length ≤ s.cm.length + 1 + l.length := by
 have h1 := adds_len l (rAdd s.cm (s.b, u))
 have h2 := rAdd_len1 s.cm (s.b, u)
 unfold ackAll
 omega
theorem cameB_ok {s : Sq} (h : cameB s = true) : Ok s.cm ∧ ∀ x ∈ s.cm, s.b < x.1 ∧ x.2 ≤ s.n := by
 unfold cameB at h
 rw [Bool.and_eq_true, decide_eq_true_eq, List.all_eq_true] at h
 refine ⟨iChk_iff.1 h.1, fun x hx => ?_⟩
 obtain ⟨a, b⟩ := camB_t (h.2 x hx)
 omega
theorem mayQ_ok {s : Sq} {u : Int} {l : List Iv} (h : mayQ s u l = true) : sChk s = 0 ∧ (s.b ≤ u ∧ u ≤ s.n) ∧ Ok l ∧ ∀ x ∈ l, u ≤ x.1 ∧ x.2 ≤ s.n := by
 unfold mayQ at h
 rw [Bool.and_eq_true, decide_eq_true_eq, Bool.not_eq_true', List.any_eq_false] at h
 obtain ⟨⟨h1, h2, h3, h4⟩, h5⟩ := h
 refine ⟨h1, ⟨h2, h3⟩, iChk_iff.1 h4, fun x hx => ?_⟩
 have := h5 x hx
 unfold outB at this
 simp only [Bool.or_eq_true, decide_eq_true_eq, not_or] at this
 omega
theorem has_range {l : List Iv} {a b : Int} (h : ∀ x ∈ l, a ≤ x.1 ∧ x.2 ≤ b) {m : Int} (hm : has l m = true) : a ≤ m ∧ m < b := by
 obtain ⟨x, hx, h1, h2⟩ := has_iff.1 hm
 have := h x hx
 omega
structure AllOk (s : Sq) (u : Int) (l all : List Iv) : Prop where
 b0 : 0 ≤ s.b
 bu : s.b ≤ u
 un : u ≤ s.n
 nd : s.n ≤ s.b + s.d.length
 nb : s.n ≤ 1099511628000
 ok : Ok all
 has : ∀ m, has all m = (has s.cm m || (inV (s.b, u) m || has l m))
 rng : ∀ m, C06.has all m = true → s.b ≤ m ∧ m < s.n
theorem all_ok {s : Sq} (hn : s.n < 9223372036854775808) {u : Int} {l : List Iv} (h : mayQ s u l = true) : AllOk s u l (ackAll s u l) := by
 obtain ⟨h1, ⟨h2, h3⟩, h4, h5⟩ := mayQ_ok h
 obtain ⟨⟨c1, c2, c3, c4⟩, c5, c6, c7⟩ := sChk_ok hn h1
 unfold lastP at c2
 obtain ⟨d1, d2⟩ := cameB_ok c6
 have hm : mayB (s.b, u) = true := mayB_iff.2 ⟨⟨c1, by show s.b ≤ _; omega⟩, by show 0 ≤ u; omega, by show u ≤ _; omega⟩
 obtain ⟨a1, a2⟩ := add_has d1 hm
 obtain ⟨b1, b2⟩ := adds_ok (l := l) a1 fun x hx => (ok_may h4 hx).1
 have hh : ∀ m, C06.has (ackAll s u l) m = (C06.has s.cm m || (inV (s.b, u) m || C06.has l m)) := fun m => by
  unfold ackAll
  rw [b2, a2, Bool.or_assoc]
 refine ⟨c1, h2, h3, by omega, by omega, b1, hh, fun m g => ?_⟩
 rw [hh] at g
 rcases Bool.or_eq_true_iff.1 g with g | g
 ·have := has_range (a := s.b) (b := s.n) (fun x hx => ⟨by have := d2 x hx; omega, (d2 x hx).2⟩) g
  exact this
 ·rcases Bool.or_eq_true_iff.1 g with g | g
  ·have : s.b ≤ m ∧ m < u := of_decide_eq_true g
   omega
  ·have := has_range h5 g
   omega
theorem all_end {s : Sq} {u : Int} {l all : List Iv} (h : AllOk s u l all) : ∀ x ∈ all, s.b ≤ x.1 ∧ x.2 ≤ s.n := fun x hx => by
 have h1 := srt_mem h.ok.srt x hx
 have h2 := h.rng x.1 (has_iff.2 ⟨x, hx, by omega, by omega⟩)
 have h3 := h.rng (x.2 - 1) (has_iff.2 ⟨x, hx, by omega, by omega⟩)
 omega
theorem first_in {s : Sq} {u : Int} {l all : List Iv} (h : AllOk s u l all) : u ≤ rFirst all u ∧ rFirst all u ≤ s.n ∧ has all (rFirst all u) = false ∧ ∀ m : Int, s.b ≤ m → m < rFirst all u → has all m = true := by
 have hu := h.bu
 have hb := h.b0
 have hun := h.un
 have e : rFirst all u = adv all u := by unfold rFirst adv; rw [show max u 0 = u by omega]
 have h1 := has_adv h.ok.srt u
 rw [e]
 have h2 : ∀ m : Int, s.b ≤ m → m < u → has all m = true := fun m m1 m2 => by
  rw [h.has, show inV (s.b, u) m = true from decide_eq_true (by show s.b ≤ m ∧ m < u; omega), Bool.true_or, Bool.or_true]
 unfold adv at h1 ⊢
 by_cases g : (fnd all u).2 = true
 ·rw [if_pos g] at h1 ⊢
  obtain ⟨m1, m2, m3⟩ := fnd_mem g
  have m4 := all_end h _ m1
  refine ⟨by omega, m4.2, h1, fun m k1 k2 => ?_⟩
  by_cases k3 : m < u
  ·exact h2 m k1 k3
  ·exact has_iff.2 ⟨_, m1, by omega, k2⟩
 ·rw [if_neg g] at h1 ⊢
  exact ⟨by omega, hun, h1, h2⟩
end Go.Proofs.YtalpfhpeaaocmaaGreat.C11
end
section
namespace Go.Proofs.YtalpfhpeaaocmaaGreat.C11
open Sx Go.RowKit C06
structure Rp where
 a : Int
 s : Int
 l : Bool
 deriving DecidableEq
def rpD (r : Rp) : D := .agg [.int .i64 r.a, .int .i64 r.s, .bool r.l]
def smpl (now : Int) (c : Ck) : Int := if c.r = 1 ∧ now ≥ c.s then IntKind.i64.wrap (now - c.s) else -1
def ackS (all : List Iv) (now : Int) (p : List Ck × Int) (c : Ck) : List Ck × Int := (p.1 ++ lft c all, if someB c all = true then smpl now c else p.2)
def ackF (s : Sq) (all : List Iv) (now : Int) : List Ck × Int := s.fl.foldl (ackS all now) ([], -1)
def acO (s : Sq) (u : Int) (all : List Iv) (now : Int) : Sq := ⟨rFirst all u, s.d.drop (rFirst all u - s.b).toNat, s.n, (ackF s all now).1, rCut all (0, rFirst all u)⟩
def rAck (s : Sq) (u : Int) (l : List Iv) (now : Int) : Sq × Rp :=
 if mayQ s u l = false then (s, ⟨0, -1, false⟩)
 else ((rLose (acO s u (ackAll s u l) now)).1, ⟨IntKind.i64.wrap (rCount (ackAll s u l) - rCount s.cm), (ackF s (ackAll s u l) now).2, (rLose (acO s u (ackAll s u l) now)).2⟩)
def rpB (a s : Int) (q : Bool) : Ob := .box [.d (.int .i64 a), .d (.int .i64 s), .d (.bool q)]
def I20 (s : Sq) (u now : Int) (l all : List Iv) (j : Nat) : St := ⟨[(1, .d (.int .i64 u)), (3, .d (.int .i64 now)), (4, .ptr 0 0), (8, .ptr 1 0), (9, .ptr 2 0), (10, .ptr 3 0), (11, .d (.sl (all.map ivD))), (35, .d (.sl (l.map ivD))), (36, .d (.int .i64 l.length)), (37, .d (.int .i64 j))], [(0, sqB s), (1, sqZ), (2, rpB 0 0 false), (3, rpB 0 (-1) false)]⟩
theorem r20 (s : Sq) (u now : Int) (l all all' : List Iv) (hl : l.length < 1000000) (j : Nat) (x : Iv) (hn : l[j]? = some x) (k1 : FnOK Tryz.prog 106 [.d (.sl (all.map ivD)), .d (ivD x)] [] (.d (.sl (all'.map ivD))) []) : Runs Tryz.prog 0 (loopN Tryz.prog 88 0) (St.as (I20 s u now l all j) 115) (.normal) (St.as (I20 s u now l all' (j+1)) 115) := by
 refine round_wp (p := condP (decide ((↑j : Int) < (↑l.length : Int))) (((0 : Int) ≤ (↑j : Int)) ∧ ((List.map ivD l)[(↑j : Int).toNat]? = some (ivD x)) ∧ (FnOK Tryz.prog 106 [vL (List.map ivD all), AV.d (ivD x)] [] (vL (List.map ivD all')) []) ∧ (rf (vI u)) ∧ (rf (vI now)) ∧ (rf (AV.ptr 0 0)) ∧ (rf (AV.ptr 1 0)) ∧ (rf (AV.ptr 2 0)) ∧ (rf (AV.ptr 3 0)) ∧ (rf (vL (List.map ivD all'))) ∧ (rf (vL (List.map ivD l))) ∧ (rf (vI (↑l.length : Int))) ∧ (vI (IntKind.i64.wrap ((↑j : Int) + (1 : Int))) = vI (↑(j + 1) : Int)) ∧ (rf (Ob.box [vI s.b, vS s.d, vI s.n, vL (List.map ckD s.fl), vL (List.map ivD s.cm)])) ∧ (rf (Ob.box [vI 0, vS [], vI 0, AV.raw (Value.slice none 0 0), AV.raw (Value.slice none 0 0)])) ∧ (rf (Ob.box [vI 0, vI 0, vB false])) ∧ (rf (Ob.box [vI 0, vI (-1 : Int), vB false])) ∧ True) (False)) (h := {els := [(35, .el (ivD x))], H := [(8, [(2, .call [] (.d (.sl (all'.map ivD))) [])])]}) (subs := []) (ws := []) (ρ := []) (by kernel_rfl) ?_
 have hj := get_lt hn
 have hi := inc_i64 (j := j) (by omega)
 try simp only [hi]
 refine condP_t (by rw [decide_eq_true_eq]; omega) ?_
 repeat' (with_reducible first|exact ⟨⟩|apply And.intro|(first|apply zA|apply zB|apply zC|apply zD|apply zE|apply zF|apply zG)<;>intro)
 all_goals first | exact k1 | exact el_map hn rfl | rfl | omega | skip
theorem q20 (s : Sq) (u now : Int) (l all : List Iv) : Runs Tryz.prog 0 (loopN Tryz.prog 88 0) (St.as (I20 s u now l all l.length) 115) (.exit 0) (St.as (I20 s u now l all l.length) 115) := by
 refine round_wp (p := condP (decide ((↑l.length : Int) < (↑l.length : Int))) (False) ((rf (vI u)) ∧ (rf (vI now)) ∧ (rf (AV.ptr 0 0)) ∧ (rf (AV.ptr 1 0)) ∧ (rf (AV.ptr 2 0)) ∧ (rf (AV.ptr 3 0)) ∧ (rf (vL (List.map ivD all))) ∧ (rf (vL (List.map ivD l))) ∧ (rf (vI (↑l.length : Int))) ∧ (rf (vI (↑l.length : Int))) ∧ (rf (Ob.box [vI s.b, vS s.d, vI s.n, vL (List.map ckD s.fl), vL (List.map ivD s.cm)])) ∧ (rf (Ob.box [vI 0, vS [], vI 0, AV.raw (Value.slice none 0 0), AV.raw (Value.slice none 0 0)])) ∧ (rf (Ob.box [vI 0, vI 0, vB false])) ∧ (rf (Ob.box [vI 0, vI (-1 : Int), vB false])) ∧ True)) (h := {}) (subs := []) (ws := []) (ρ := []) (by kernel_rfl) ?_
 repeat' (with_reducible first|exact ⟨⟩|apply And.intro|(first|apply zA|apply zB|apply zC|apply zD|apply zE|apply zF|apply zG)<;>intro)
 all_goals first | rfl | omega
def J20 (s : Sq) (u now : Int) (all : List Iv) (a v : Int) (m : List Ck) (j : Nat) : St := ⟨[(1, .d (.int .i64 u)), (3, .d (.int .i64 now)), (4, .ptr 0 0), (8, .ptr 1 0), (9, .ptr 2 0), (10, .ptr 3 0), (11, .d (.sl (all.map ivD))), (14, .ptr 4 0), (56, .d (.sl (s.fl.map ckD))), (57, .d (.int .i64 s.fl.length)), (58, .d (.int .i64 j))], [(0, sqB s), (1, sqZ), (2, rpB 0 0 false), (3, rpB a v false), (4, .box [.d (.int .i64 0), .d (.str []), .d (.int .i64 s.n), .own 5 5, .raw (.slice none 0 0)]), (5, .row 5 (m.map ckD))]⟩
theorem s20a (s : Sq) (u now : Int) (all : List Iv) (a v : Int) (m t : List Ck) (hf : s.fl.length < 1000000) (hm : m.length + t.length < 1000000000) (j : Nat) (c : Ck) (hn : s.fl[j]? = some c) (q : Bool) (k1 : FnOK Tryz.prog 108 [.d (ckD c), .d (.sl (all.map ivD))] [] (.tup [.d (.sl (t.map ckD)), .d (.bool q)]) []) (hq : q = false) (h1 : True) : Runs Tryz.prog 0 (loopN Tryz.prog 88 1) (St.as (J20 s u now all a v m j) 115) (.normal) (St.as (J20 s u now all a v (m ++ t) (j+1)) 115) := by
 refine round_wp (p := condP (decide ((↑j : Int) < (↑s.fl.length : Int))) (((0 : Int) ≤ (↑j : Int)) ∧ ((List.map ckD s.fl)[(↑j : Int).toNat]? = some (ckD c)) ∧ (FnOK Tryz.prog 108 [AV.d (ckD c), vL (List.map ivD all)] [] (AV.tup [vL (List.map ckD t), vB q]) []) ∧ (((List.map ckD m).length + (List.map ckD t).length) * 40 ≤ 140737488355328) ∧ (∀ (e : D), e ∈ List.map ckD t → e.cells.length = 5) ∧ ((D.bool !q) = D.bool true) ∧ (rf (vI u)) ∧ (rf (vI now)) ∧ (rf (AV.ptr 0 0)) ∧ (rf (AV.ptr 1 0)) ∧ (rf (AV.ptr 2 0)) ∧ (rf (AV.ptr 3 0)) ∧ (rf (vL (List.map ivD all))) ∧ (rf (AV.ptr 4 0)) ∧ (rf (vL (List.map ckD s.fl))) ∧ (rf (vI (↑s.fl.length : Int))) ∧ (vI (IntKind.i64.wrap ((↑j : Int) + (1 : Int))) = vI (↑(j + 1) : Int)) ∧ (rf (Ob.box [vI s.b, vS s.d, vI s.n, vL (List.map ckD s.fl), vL (List.map ivD s.cm)])) ∧ (rf (Ob.box [vI 0, vS [], vI 0, AV.raw (Value.slice none 0 0), AV.raw (Value.slice none 0 0)])) ∧ (rf (Ob.box [vI 0, vI 0, vB false])) ∧ (rf (Ob.box [vI a, vI v, vB false])) ∧ (rf (Ob.box [vI 0, vS [], vI s.n, AV.own 1568 5, AV.raw (Value.slice none 0 0)])) ∧ (Ob.row 5 (List.map ckD m ++ List.map ckD t) = Ob.row 5 (List.map ckD (m ++ t))) ∧ True) (False)) (h := {els := [(56, .el (ckD c))], H := [(15, [(2, .call [] (.tup [.d (.sl (t.map ckD)), .d (.bool q)]) [])]), (17, [(1, .val (.bool true))])]}) (subs := []) (ws := []) (ρ := []) (by kernel_rfl) ?_
 have hj := get_lt hn
 have hi := inc_i64 (j := j) (by omega)
 have hcm : (m ++ t).map ckD = m.map ckD ++ t.map ckD := List.map_append ..
 try simp only [hi]
 refine condP_t (by rw [decide_eq_true_eq]; omega) ?_
 repeat' (with_reducible first|exact ⟨⟩|apply And.intro|(first|apply zA|apply zB|apply zC|apply zD|apply zE|apply zF|apply zG)<;>intro)
 all_goals first | exact k1 | exact el_map hn rfl | exact congrArg (Ob.row 5) hcm.symm | exact ckD_sz _ | rfl | omega | (simp; omega) | exact dyes (by omega) | exact dno (by omega) | (refine congrArg D.bool ?_; simp [hq]; done) | (refine congrArg D.bool ?_; simp [h1]; done) | skip
theorem s20b (s : Sq) (u now : Int) (all : List Iv) (a v : Int) (m t : List Ck) (hf : s.fl.length < 1000000) (hm : m.length + t.length < 1000000000) (j : Nat) (c : Ck) (hn : s.fl[j]? = some c) (q : Bool) (k1 : FnOK Tryz.prog 108 [.d (ckD c), .d (.sl (all.map ivD))] [] (.tup [.d (.sl (t.map ckD)), .d (.bool q)]) []) (hq : q = true) (h1 : c.r = 1) (h2 : now ≥ c.s) : Runs Tryz.prog 0 (loopN Tryz.prog 88 1) (St.as (J20 s u now all a v m j) 115) (.normal) (St.as (J20 s u now all a (IntKind.i64.wrap (now - c.s)) (m ++ t) (j+1)) 115) := by
 refine round_wp (p := condP (decide ((↑j : Int) < (↑s.fl.length : Int))) (((0 : Int) ≤ (↑j : Int)) ∧ ((List.map ckD s.fl)[(↑j : Int).toNat]? = some (ckD c)) ∧ (FnOK Tryz.prog 108 [AV.d (ckD c), vL (List.map ivD all)] [] (AV.tup [vL (List.map ckD t), vB q]) []) ∧ (((List.map ckD m).length + (List.map ckD t).length) * 40 ≤ 140737488355328) ∧ (∀ (e : D), e ∈ List.map ckD t → e.cells.length = 5) ∧ ((D.bool !q) = D.bool false) ∧ (D.bool (c.r == (1 : Int)) = D.bool true) ∧ (D.bool (decide (now ≥ c.s)) = D.bool true) ∧ (rf (vI u)) ∧ (rf (vI now)) ∧ (rf (AV.ptr 0 0)) ∧ (rf (AV.ptr 1 0)) ∧ (rf (AV.ptr 2 0)) ∧ (rf (AV.ptr 3 0)) ∧ (rf (vL (List.map ivD all))) ∧ (rf (AV.ptr 4 0)) ∧ (rf (vL (List.map ckD s.fl))) ∧ (rf (vI (↑s.fl.length : Int))) ∧ (vI (IntKind.i64.wrap ((↑j : Int) + (1 : Int))) = vI (↑(j + 1) : Int)) ∧ (rf (Ob.box [vI s.b, vS s.d, vI s.n, vL (List.map ckD s.fl), vL (List.map ivD s.cm)])) ∧ (rf (Ob.box [vI 0, vS [], vI 0, AV.raw (Value.slice none 0 0), AV.raw (Value.slice none 0 0)])) ∧ (rf (Ob.box [vI 0, vI 0, vB false])) ∧ (rf (Ob.box [vI a, vI (IntKind.i64.wrap (now - c.s)), vB false])) ∧ (rf (Ob.box [vI 0, vS [], vI s.n, AV.own 1568 5, AV.raw (Value.slice none 0 0)])) ∧ (Ob.row 5 (List.map ckD m ++ List.map ckD t) = Ob.row 5 (List.map ckD (m ++ t))) ∧ True) (False)) (h := {els := [(56, .el (ckD c))], H := [(15, [(2, .call [] (.tup [.d (.sl (t.map ckD)), .d (.bool q)]) [])]), (17, [(1, .val (.bool false))]), (19, [(3, .val (.bool true)), (8, .val (.bool true))])]}) (subs := []) (ws := []) (ρ := []) (by kernel_rfl) ?_
 have hj := get_lt hn
 have hi := inc_i64 (j := j) (by omega)
 have hcm : (m ++ t).map ckD = m.map ckD ++ t.map ckD := List.map_append ..
 try simp only [hi]
 refine condP_t (by rw [decide_eq_true_eq]; omega) ?_
 repeat' (with_reducible first|exact ⟨⟩|apply And.intro|(first|apply zA|apply zB|apply zC|apply zD|apply zE|apply zF|apply zG)<;>intro)
 all_goals first | exact k1 | exact el_map hn rfl | exact congrArg (Ob.row 5) hcm.symm | exact ckD_sz _ | rfl | omega | (simp; omega) | exact dyes (by omega) | exact dno (by omega) | (refine congrArg D.bool ?_; simp [hq]; done) | (refine congrArg D.bool ?_; simp [h1]; done) | skip
theorem s20c (s : Sq) (u now : Int) (all : List Iv) (a v : Int) (m t : List Ck) (hf : s.fl.length < 1000000) (hm : m.length + t.length < 1000000000) (j : Nat) (c : Ck) (hn : s.fl[j]? = some c) (q : Bool) (k1 : FnOK Tryz.prog 108 [.d (ckD c), .d (.sl (all.map ivD))] [] (.tup [.d (.sl (t.map ckD)), .d (.bool q)]) []) (hq : q = true) (h1 : c.r = 1) (h2 : ¬now ≥ c.s) : Runs Tryz.prog 0 (loopN Tryz.prog 88 1) (St.as (J20 s u now all a v m j) 115) (.normal) (St.as (J20 s u now all a (-1) (m ++ t) (j+1)) 115) := by
 refine round_wp (p := condP (decide ((↑j : Int) < (↑s.fl.length : Int))) (((0 : Int) ≤ (↑j : Int)) ∧ ((List.map ckD s.fl)[(↑j : Int).toNat]? = some (ckD c)) ∧ (FnOK Tryz.prog 108 [AV.d (ckD c), vL (List.map ivD all)] [] (AV.tup [vL (List.map ckD t), vB q]) []) ∧ (((List.map ckD m).length + (List.map ckD t).length) * 40 ≤ 140737488355328) ∧ (∀ (e : D), e ∈ List.map ckD t → e.cells.length = 5) ∧ ((D.bool !q) = D.bool false) ∧ (D.bool (c.r == (1 : Int)) = D.bool true) ∧ (D.bool (decide (now ≥ c.s)) = D.bool false) ∧ (rf (vI u)) ∧ (rf (vI now)) ∧ (rf (AV.ptr 0 0)) ∧ (rf (AV.ptr 1 0)) ∧ (rf (AV.ptr 2 0)) ∧ (rf (AV.ptr 3 0)) ∧ (rf (vL (List.map ivD all))) ∧ (rf (AV.ptr 4 0)) ∧ (rf (vL (List.map ckD s.fl))) ∧ (rf (vI (↑s.fl.length : Int))) ∧ (vI (IntKind.i64.wrap ((↑j : Int) + (1 : Int))) = vI (↑(j + 1) : Int)) ∧ (rf (Ob.box [vI s.b, vS s.d, vI s.n, vL (List.map ckD s.fl), vL (List.map ivD s.cm)])) ∧ (rf (Ob.box [vI 0, vS [], vI 0, AV.raw (Value.slice none 0 0), AV.raw (Value.slice none 0 0)])) ∧ (rf (Ob.box [vI 0, vI 0, vB false])) ∧ (rf (Ob.box [vI a, vI (-1 : Int), vB false])) ∧ (rf (Ob.box [vI 0, vS [], vI s.n, AV.own 1568 5, AV.raw (Value.slice none 0 0)])) ∧ (Ob.row 5 (List.map ckD m ++ List.map ckD t) = Ob.row 5 (List.map ckD (m ++ t))) ∧ True) (False)) (h := {els := [(56, .el (ckD c))], H := [(15, [(2, .call [] (.tup [.d (.sl (t.map ckD)), .d (.bool q)]) [])]), (17, [(1, .val (.bool false))]), (19, [(3, .val (.bool true)), (8, .val (.bool false))])]}) (subs := []) (ws := []) (ρ := []) (by kernel_rfl) ?_
 have hj := get_lt hn
 have hi := inc_i64 (j := j) (by omega)
 have hcm : (m ++ t).map ckD = m.map ckD ++ t.map ckD := List.map_append ..
 try simp only [hi]
 refine condP_t (by rw [decide_eq_true_eq]; omega) ?_
 repeat' (with_reducible first|exact ⟨⟩|apply And.intro|(first|apply zA|apply zB|apply zC|apply zD|apply zE|apply zF|apply zG)<;>intro)
 all_goals first | exact k1 | exact el_map hn rfl | exact congrArg (Ob.row 5) hcm.symm | exact ckD_sz _ | rfl | omega | (simp; omega) | exact dyes (by omega) | exact dno (by omega) | (refine congrArg D.bool ?_; simp [hq]; done) | (refine congrArg D.bool ?_; simp [h1]; done) | skip
theorem s20d (s : Sq) (u now : Int) (all : List Iv) (a v : Int) (m t : List Ck) (hf : s.fl.length < 1000000) (hm : m.length + t.length < 1000000000) (j : Nat) (c : Ck) (hn : s.fl[j]? = some c) (q : Bool) (k1 : FnOK Tryz.prog 108 [.d (ckD c), .d (.sl (all.map ivD))] [] (.tup [.d (.sl (t.map ckD)), .d (.bool q)]) []) (hq : q = true) (h1 : ¬c.r = 1) : Runs Tryz.prog 0 (loopN Tryz.prog 88 1) (St.as (J20 s u now all a v m j) 115) (.normal) (St.as (J20 s u now all a (-1) (m ++ t) (j+1)) 115) := by
 refine round_wp (p := condP (decide ((↑j : Int) < (↑s.fl.length : Int))) (((0 : Int) ≤ (↑j : Int)) ∧ ((List.map ckD s.fl)[(↑j : Int).toNat]? = some (ckD c)) ∧ (FnOK Tryz.prog 108 [AV.d (ckD c), vL (List.map ivD all)] [] (AV.tup [vL (List.map ckD t), vB q]) []) ∧ (((List.map ckD m).length + (List.map ckD t).length) * 40 ≤ 140737488355328) ∧ (∀ (e : D), e ∈ List.map ckD t → e.cells.length = 5) ∧ ((D.bool !q) = D.bool false) ∧ (D.bool (c.r == (1 : Int)) = D.bool false) ∧ (rf (vI u)) ∧ (rf (vI now)) ∧ (rf (AV.ptr 0 0)) ∧ (rf (AV.ptr 1 0)) ∧ (rf (AV.ptr 2 0)) ∧ (rf (AV.ptr 3 0)) ∧ (rf (vL (List.map ivD all))) ∧ (rf (AV.ptr 4 0)) ∧ (rf (vL (List.map ckD s.fl))) ∧ (rf (vI (↑s.fl.length : Int))) ∧ (vI (IntKind.i64.wrap ((↑j : Int) + (1 : Int))) = vI (↑(j + 1) : Int)) ∧ (rf (Ob.box [vI s.b, vS s.d, vI s.n, vL (List.map ckD s.fl), vL (List.map ivD s.cm)])) ∧ (rf (Ob.box [vI 0, vS [], vI 0, AV.raw (Value.slice none 0 0), AV.raw (Value.slice none 0 0)])) ∧ (rf (Ob.box [vI 0, vI 0, vB false])) ∧ (rf (Ob.box [vI a, vI (-1 : Int), vB false])) ∧ (rf (Ob.box [vI 0, vS [], vI s.n, AV.own 1568 5, AV.raw (Value.slice none 0 0)])) ∧ (Ob.row 5 (List.map ckD m ++ List.map ckD t) = Ob.row 5 (List.map ckD (m ++ t))) ∧ True) (False)) (h := {els := [(56, .el (ckD c))], H := [(15, [(2, .call [] (.tup [.d (.sl (t.map ckD)), .d (.bool q)]) [])]), (17, [(1, .val (.bool false))]), (19, [(3, .val (.bool false))])]}) (subs := []) (ws := []) (ρ := []) (by kernel_rfl) ?_
 have hj := get_lt hn
 have hi := inc_i64 (j := j) (by omega)
 have hcm : (m ++ t).map ckD = m.map ckD ++ t.map ckD := List.map_append ..
 try simp only [hi]
 refine condP_t (by rw [decide_eq_true_eq]; omega) ?_
 repeat' (with_reducible first|exact ⟨⟩|apply And.intro|(first|apply zA|apply zB|apply zC|apply zD|apply zE|apply zF|apply zG)<;>intro)
 all_goals first | exact k1 | exact el_map hn rfl | exact congrArg (Ob.row 5) hcm.symm | exact ckD_sz _ | rfl | omega | (simp; omega) | exact dyes (by omega) | exact dno (by omega) | (refine congrArg D.bool ?_; simp [hq]; done) | (refine congrArg D.bool ?_; simp [h1]; done) | skip
theorem t20 (s : Sq) (u now : Int) (all : List Iv) (a v : Int) (m : List Ck) : Runs Tryz.prog 0 (loopN Tryz.prog 88 1) (St.as (J20 s u now all a v m s.fl.length) 115) (.exit 2) (St.as (J20 s u now all a v m s.fl.length) 115) := by
 refine round_wp (p := condP (decide ((↑s.fl.length : Int) < (↑s.fl.length : Int))) (False) ((rf (vI u)) ∧ (rf (vI now)) ∧ (rf (AV.ptr 0 0)) ∧ (rf (AV.ptr 1 0)) ∧ (rf (AV.ptr 2 0)) ∧ (rf (AV.ptr 3 0)) ∧ (rf (vL (List.map ivD all))) ∧ (rf (AV.ptr 4 0)) ∧ (rf (vL (List.map ckD s.fl))) ∧ (rf (vI (↑s.fl.length : Int))) ∧ (rf (vI (↑s.fl.length : Int))) ∧ (rf (Ob.box [vI s.b, vS s.d, vI s.n, vL (List.map ckD s.fl), vL (List.map ivD s.cm)])) ∧ (rf (Ob.box [vI 0, vS [], vI 0, AV.raw (Value.slice none 0 0), AV.raw (Value.slice none 0 0)])) ∧ (rf (Ob.box [vI 0, vI 0, vB false])) ∧ (rf (Ob.box [vI a, vI v, vB false])) ∧ (rf (Ob.box [vI 0, vS [], vI s.n, AV.own 5 5, AV.raw (Value.slice none 0 0)])) ∧ (rf (Ob.row 5 (List.map ckD m))) ∧ True)) (h := {}) (subs := []) (ws := []) (ρ := []) (by kernel_rfl) ?_
 repeat' (with_reducible first|exact ⟨⟩|apply And.intro|(first|apply zA|apply zB|apply zC|apply zD|apply zE|apply zF|apply zG)<;>intro)
 all_goals first | rfl | omega
theorem step20 (s : Sq) (u now : Int) (all : List Iv) (ha : all.length < 100000) (a : Int) (p : List Ck × Int) (hf : s.fl.length < 1000000) (j : Nat) (c : Ck) (hn : s.fl[j]? = some c) (hm : p.1.length + (lft c all).length < 1000000000) : Runs Tryz.prog 0 (loopN Tryz.prog 88 1) ((J20 s u now all a p.2 p.1 j).as 115) .normal ((J20 s u now all a (ackS all now p c).2 (ackS all now p c).1 (j+1)).as 115) := by
 have k1 := without47 c all ha
 unfold ackS
 cases hq : someB c all
 ·rw [hq] at k1
  rw [if_neg (by simp)]
  exact s20a s u now all a p.2 p.1 (lft c all) hf hm j c hn _ k1 rfl trivial
 ·rw [hq] at k1
  rw [if_pos rfl]
  unfold smpl
  by_cases h1 : c.r = 1
  ·by_cases h2 : now ≥ c.s
   ·rw [if_pos ⟨h1, h2⟩]
    exact s20b s u now all a p.2 p.1 (lft c all) hf hm j c hn _ k1 rfl h1 h2
   ·rw [if_neg (fun g => h2 g.2)]
    exact s20c s u now all a p.2 p.1 (lft c all) hf hm j c hn _ k1 rfl h1 h2
  ·rw [if_neg (fun g => h1 g.1)]
   exact s20d s u now all a p.2 p.1 (lft c all) hf hm j c hn _ k1 rfl h1
theorem ack20n (s : Sq) (u : Int) (l : List Iv) (now : Int) (k1 : FnOK Tryz.prog 105 [.d (sqD s), .d (.int .i64 u), .d (.sl (l.map ivD))] [] (.d (.bool false)) []) (k2 : FnOK Tryz.prog 52 [.d (sqD s)] [] (.d (sqD s)) []) : FnOK Tryz.prog 88 ([.d (sqD s), .d (.int .i64 u), .d (.sl (l.map ivD)), .d (.int .i64 now)]) ([]) (.tup [.d (sqD s), .d (rpD ⟨0, -1, false⟩)]) ([]) := by
 refine fnOK_wp (p := (FnOK Tryz.prog 105 [AV.d (sqD s), vI u, vL (List.map ivD l)] [] (vB false) []) ∧ (FnOK Tryz.prog 52 [AV.d (sqD s)] [] (AV.d (sqD s)) []) ∧ (rf (AV.tup [AV.d (sqD s), AV.d (.agg [D.int .i64 0, D.int .i64 (-1 : Int), D.bool false])])) ∧ True) (h := {H := [(2, [(3, .call [] (.d (.bool false)) [])]), (3, [(1, .call [] (.d (sqD s)) [])])]}) (subs := []) (ws := []) (ρ := []) (by kernel_rfl) ?_
 repeat' (with_reducible first|exact ⟨⟩|apply And.intro|(first|apply zA|apply zB|apply zC|apply zD|apply zE|apply zF|apply zG)<;>intro)
 all_goals first | exact k1 | exact k2 | rfl | skip
theorem ack20y (s : Sq) (u : Int) (l : List Iv) (now : Int) (all0 all cm : List Iv) (na nc b x v : Int) (m m' : List Ck) (q : Bool) (hd : s.d.length < 1000000) (k1 : FnOK Tryz.prog 105 [.d (sqD s), .d (.int .i64 u), .d (.sl (l.map ivD))] [] (.d (.bool true)) []) (k2 : FnOK Tryz.prog 106 [.d (.sl (s.cm.map ivD)), .d (ivD (s.b, u))] [] (.d (.sl (all0.map ivD))) []) (hA : Loops Tryz.prog 0 (loopN Tryz.prog 88 0) ((I20 s u now l all0 0).as 115) (.exit 0) ((I20 s u now l all l.length).as 115)) (k3 : FnOK Tryz.prog 107 [.d (.sl (all.map ivD))] [] (.d (.int .i64 na)) []) (k4 : FnOK Tryz.prog 107 [.d (.sl (s.cm.map ivD))] [] (.d (.int .i64 nc)) []) (hB : Loops Tryz.prog 0 (loopN Tryz.prog 88 1) ((J20 s u now all (IntKind.i64.wrap (na - nc)) (-1) [] 0).as 115) (.exit 2) ((J20 s u now all (IntKind.i64.wrap (na - nc)) v m s.fl.length).as 115)) (k5 : FnOK Tryz.prog 109 [.d (.sl (all.map ivD)), .d (.int .i64 u)] [] (.d (.int .i64 b)) []) (hx : IntKind.i64.wrap (b - s.b) = x) (hx0 : 0 ≤ x) (hx1 : x ≤ s.d.length) (k6 : FnOK Tryz.prog 110 [.d (.sl (all.map ivD)), .d (ivD (0, b))] [] (.d (.sl (cm.map ivD))) []) (k7 : FnOK Tryz.prog 111 [oAV ⟨b, s.d.drop x.toNat, s.n, m, cm⟩] [.row 5 (m.map ckD)] (.d (.bool q)) [.row 5 (m'.map ckD)]) : FnOK Tryz.prog 88 ([.d (sqD s), .d (.int .i64 u), .d (.sl (l.map ivD)), .d (.int .i64 now)]) ([]) (.tup [.d (sqD ⟨b, s.d.drop x.toNat, s.n, m', cm⟩), .d (rpD ⟨IntKind.i64.wrap (na - nc), v, q⟩)]) ([]) := by
 refine fnOK_wp (p := (FnOK Tryz.prog 105 [AV.d (sqD s), vI u, vL (List.map ivD l)] [] (vB true) []) ∧ (FnOK Tryz.prog 106 [vL (List.map ivD s.cm), AV.d (.agg [D.int .i64 s.b, D.int .i64 u])] [] (vL (List.map ivD all0)) []) ∧ (rf (vI u)) ∧ (rf (vI now)) ∧ (rf (AV.ptr 1032 0)) ∧ (rf (AV.ptr 1064 0)) ∧ (rf (AV.ptr 1072 0)) ∧ (rf (AV.ptr 1080 0)) ∧ (rf (vL (List.map ivD all0))) ∧ (rf (vL (List.map ivD l))) ∧ (vI (↑(List.map ivD l).length : Int) = vI (↑l.length : Int)) ∧ (rf (vI 0)) ∧ (rf (Ob.box [vI s.b, vS s.d, vI s.n, vL (List.map ckD s.fl), vL (List.map ivD s.cm)])) ∧ (rf (Ob.box [vI 0, vS [], vI 0, AV.raw (Value.slice none 0 0), AV.raw (Value.slice none 0 0)])) ∧ (rf (Ob.box [vI 0, vI 0, vB false])) ∧ (rf (Ob.box [vI 0, vI (-1 : Int), vB false])) ∧ (LoopsS Tryz.prog 0 (loopN Tryz.prog 88 0) (I20 s u now l all0 0) (Exit.exit 0) (I20 s u now l all l.length) 115) ∧ (FnOK Tryz.prog 107 [vL (List.map ivD all)] [] (vI na) []) ∧ (FnOK Tryz.prog 107 [vL (List.map ivD s.cm)] [] (vI nc) []) ∧ (rf (vI u)) ∧ (rf (vI now)) ∧ (rf (AV.ptr 0 0)) ∧ (rf (AV.ptr 1 0)) ∧ (rf (AV.ptr 2 0)) ∧ (rf (AV.ptr 3 0)) ∧ (rf (vL (List.map ivD all))) ∧ (rf (AV.ptr 1112 0)) ∧ (rf (vL (List.map ckD s.fl))) ∧ (vI (↑(List.map ckD s.fl).length : Int) = vI (↑s.fl.length : Int)) ∧ (rf (vI 0)) ∧ (rf (Ob.box [vI s.b, vS s.d, vI s.n, vL (List.map ckD s.fl), vL (List.map ivD s.cm)])) ∧ (rf (Ob.box [vI 0, vS [], vI 0, AV.raw (Value.slice none 0 0), AV.raw (Value.slice none 0 0)])) ∧ (rf (Ob.box [vI 0, vI 0, vB false])) ∧ (rf (Ob.box [vI (IntKind.i64.wrap (na - nc)), vI (-1 : Int), vB false])) ∧ (rf (Ob.box [vI 0, vS [], vI s.n, AV.own 500 5, AV.raw (Value.slice none 0 0)])) ∧ (rf (Ob.row 5 [])) ∧ (LoopsS Tryz.prog 0 (loopN Tryz.prog 88 1) (J20 s u now all (IntKind.i64.wrap (na - nc)) (-1 : Int) [] 0) (Exit.exit 2) (J20 s u now all (IntKind.i64.wrap (na - nc)) v m s.fl.length) 115) ∧ (FnOK Tryz.prog 109 [vL (List.map ivD all), vI u] [] (vI b) []) ∧ (D.int .i64 (IntKind.i64.wrap (b - s.b)) = D.int .i64 x) ∧ ((0 : Int) ≤ x ∧ x ≤ (↑s.d.length : Int) ∧ (↑s.d.length : Int) ≤ (↑s.d.length : Int)) ∧ (FnOK Tryz.prog 110 [vL (List.map ivD all), AV.d (.agg [D.int .i64 0, D.int .i64 b])] [] (vL (List.map ivD cm)) []) ∧ (FnOK Tryz.prog 111 [AV.agg [vI b, vS (List.drop x.toNat (List.take (↑s.d.length : Int).toNat s.d)), vI s.n, AV.own 0 5, vL (List.map ivD cm)]] [Ob.row 5 (List.map ckD m)] (vB q) [Ob.row 5 (List.map ckD m')]) ∧ (AV.tup [AV.d (.agg [D.int .i64 b, D.str (List.drop x.toNat (List.take (↑s.d.length : Int).toNat s.d)), D.int .i64 s.n, D.sl (List.map ckD m'), D.sl (List.map ivD cm)]), AV.d (.agg [D.int .i64 (IntKind.i64.wrap (na - nc)), D.int .i64 v, D.bool q])] = AV.tup [AV.d (.agg [D.int .i64 b, D.str (List.drop x.toNat s.d), D.int .i64 s.n, D.sl (List.map ckD m'), D.sl (List.map ivD cm)]), AV.d (.agg [D.int .i64 (IntKind.i64.wrap (na - nc)), D.int .i64 v, D.bool q])]) ∧ True) (h := {W := [(12, [.nilcell 1112 3 500 5])], H := [(2, [(3, .call [] (.d (.bool true)) [])]), (4, [(6, .call [] (.d (.sl (all0.map ivD))) [])]), (10, [(1, .call [] (.d (.int .i64 na)) []), (4, .call [] (.d (.int .i64 nc)) [])]), (22, [(2, .call [] (.d (.int .i64 b)) [])]), (23, [(6, .val (.int .i64 x))]), (24, [(4, .call [] (.d (.sl (cm.map ivD))) [])]), (25, [(1, .call [5] (.d (.bool q)) [.row 5 (m'.map ckD)])])]}) (subs := [⟨[], [], I20 s u now l all0 0, .exit 0, I20 s u now l all l.length⟩, ⟨[], [], J20 s u now all (IntKind.i64.wrap (na - nc)) (-1) [] 0, .exit 2, J20 s u now all (IntKind.i64.wrap (na - nc)) v m s.fl.length⟩]) (ws := []) (ρ := []) (by kernel_rfl) ?_
 have htk : List.take ((s.d.length : Int)).toNat s.d = s.d := by rw [Int.toNat_natCast, List.take_length]
 try simp only [htk, List.length_map]
 repeat' (with_reducible first|exact ⟨⟩|apply And.intro|(first|apply zA|apply zB|apply zC|apply zD|apply zE|apply zF|apply zG)<;>intro)
 all_goals first | exact k1 | exact k2 | exact k3 | exact k4 | exact k5 | exact k6 | exact k7 | exact hA | exact hB | exact congrArg (D.int .i64) hx | rfl | omega | (rw [List.take_length]; done) | (rw [List.take_length]; rfl) | skip
theorem ackS_len (all : List Iv) (now : Int) : ∀ (l : List Ck) (p : List Ck × Int), (l.foldl (ackS all now) p).1.length ≤ p.1.length + l.length * (all.length + 1)
 | [], p => by show p.1.length ≤ _; omega
 | c :: l, p => by
  have h1 := ackS_len all now l (ackS all now p c)
  have h2 := rGaps_len all (ckI c)
  have h3 : (ackS all now p c).1.length = p.1.length + (rGaps all (ckI c)).length := by unfold ackS lft; rw [List.length_append, List.length_map]
  show (l.foldl (ackS all now) (ackS all now p c)).1.length ≤ _
  rw [List.length_cons, Nat.succ_mul]
  omega
theorem lft_len (c : Ck) (all : List Iv) : (lft c all).length ≤ all.length + 1 := by unfold lft; rw [List.length_map]; exact rGaps_len all (ckI c)
theorem rLose_eq (s : Sq) : (rLose s).1 = { s with fl := (rLose s).1.fl } := by
 unfold rLose
 cases s.cm.getLast? <;> rfl
theorem ack20 (s : Sq) (h : SqOk s) (hf : s.fl.length < 10000) (hc : s.cm.length < 10000) (u : Int) (l : List Iv) (hl : l.length < 10000) (now : Int) :
  FnOK Tryz.prog 88 [.d (sqD s), .d (.int .i64 u), .d (.sl (l.map ivD)), .d (.int .i64 now)] [] (.tup [.d (sqD (rAck s u l now).1), .d (rpD (rAck s u l now).2)]) [] := by
 have k1 := may45 s h u l (by omega)
 unfold rAck
 cases hq : mayQ s u l
 ·rw [hq] at k1
  exact ack20n s u l now k1 (ownD s h)
 ·rw [hq] at k1
  rw [if_neg (by simp)]
  have ao := all_ok h.n.2 hq
  have hlen := ackAll_len s u l
  have hA := loops_n (P := Tryz.prog) (k := 0) (c := loopN Tryz.prog 88 0) (e := .exit 0) (I := fun j => (I20 s u now l ((l.take j).foldl rAdd (rAdd s.cm (s.b, u))) j).as 115) (by simp) l.length 0 (by omega) (fun j _ hj => by
   have hn := get_of hj
   show Runs _ _ _ _ _ ((I20 s u now l ((l.take (j + 1)).foldl rAdd (rAdd s.cm (s.b, u))) (j + 1)).as _)
   rw [take_snoc hn, List.foldl_append]
   have h1 := adds_len (l.take j) (rAdd s.cm (s.b, u))
   have h2 := rAdd_len1 s.cm (s.b, u)
   rw [List.length_take] at h1
   exact r20 s u now l _ _ (by omega) j _ hn (add11 _ (by omega) _)) (by simp only [List.take_length]; exact q20 s u now l _)
  have hA2 : Loops Tryz.prog 0 (loopN Tryz.prog 88 0) ((I20 s u now l (rAdd s.cm (s.b, u)) 0).as 115) (.exit 0) ((I20 s u now l (ackAll s u l) l.length).as 115) := hA
  clear hA
  generalize ackAll s u l = all at *
  obtain ⟨f1, f2, f3, f4⟩ := first_in ao
  have hb0 := ao.b0
  have hbu := ao.bu
  have hnd := ao.nd
  have hnb := ao.nb
  have hB := loops_n (P := Tryz.prog) (k := 0) (c := loopN Tryz.prog 88 1) (e := .exit 2) (I := fun j => (J20 s u now all (IntKind.i64.wrap (rCount all - rCount s.cm)) ((s.fl.take j).foldl (ackS all now) ([], -1)).2 ((s.fl.take j).foldl (ackS all now) ([], -1)).1 j).as 115) (by simp) s.fl.length 0 (by omega) (fun j _ hj => by
   have hn := get_of hj
   show Runs _ _ _ _ _ ((J20 s u now all _ ((s.fl.take (j + 1)).foldl (ackS all now) ([], -1)).2 ((s.fl.take (j + 1)).foldl (ackS all now) ([], -1)).1 (j + 1)).as _)
   rw [take_snoc hn, List.foldl_append]
   have h1 := ackS_len all now (s.fl.take j) ([], -1)
   have h2 := lft_len s.fl[j] all
   have h3 : (s.fl.take j).length * (all.length + 1) ≤ 10000 * 20003 := Nat.mul_le_mul (by rw [List.length_take]; omega) (by omega)
   simp only [List.length_nil] at h1
   exact step20 s u now all (by omega) _ _ (by omega) j _ hn (by omega)) (by simp only [List.take_length]; exact t20 s u now all _ _ _)
  have hxl := wrap_in (x := rFirst all u - s.b) (by omega) (by omega)
  have h1 := ackS_len all now s.fl ([], -1)
  have h3 : s.fl.length * (all.length + 1) ≤ 10000 * 20003 := Nat.mul_le_mul (by omega) (by omega)
  simp only [List.length_nil] at h1
  have hcl := rCut_len all (0, rFirst all u)
  have k7 := lose50 (acO s u all now) (by show (ackF s all now).1.length < _; unfold ackF; omega) (by show (rCut all (0, rFirst all u)).length < _; omega)
  rw [rLose_eq]
  exact ack20y s u l now (rAdd s.cm (s.b, u)) all (rCut all (0, rFirst all u)) (rCount all) (rCount s.cm) (rFirst all u) (rFirst all u - s.b) (ackF s all now).2 (ackF s all now).1 _ _ h.d k1 (add11 s.cm (by omega) _) hA2 (count21 all (by omega)) (count21 s.cm (by omega)) hB (first28 all (by omega) u) hxl (by omega) (by omega) (cut13 all (by omega) _) k7
end Go.Proofs.YtalpfhpeaaocmaaGreat.C11
end
section
namespace Go.Proofs.YtalpfhpeaaocmaaGreat.C11
open Sx Go.RowKit C06
theorem ends_or (l : List Iv) : l = [] ∨ ∃ y z, l.head? = some y ∧ l.getLast? = some z ∧ y ∈ l ∧ z ∈ l := by
 by_cases h : l = []
 ·exact .inl h
 ·exact .inr ⟨l.head h, l.getLast h, List.head?_eq_some_head h, List.getLast?_eq_some_getLast h, List.head_mem h, List.getLast_mem h⟩
theorem ok_one {x : Iv} (h0 : 0 ≤ x.1) (h1 : x.1 < x.2) (h2 : x.2 ≤ 4611686018427387903) : Ok [x] := one_ok (mayB_iff.2 ⟨⟨h0, by omega⟩, by omega, h2⟩) (decide_eq_false (by omega))
theorem has_one (x : Iv) (n : Int) : has [x] n = inV x n := by unfold has inV; simp
theorem ok_nil : Ok [] := ⟨trivial, fun x hx => by cases hx⟩
theorem free_iff {cm : List Iv} (ok : Ok cm) {x : Iv} (h0 : 0 ≤ x.1) (h1 : x.1 < x.2) (h2 : x.2 ≤ 4611686018427387903) : rGaps cm x = [x] ↔ dMeet [x] cm = [] := by
 have o1 := ok_one h0 h1 h2
 have hm : mayB x = true := mayB_iff.2 ⟨⟨h0, by omega⟩, by omega, h2⟩
 obtain ⟨g1, g2⟩ := gaps_ok ok hm
 obtain ⟨m1, m2⟩ := meet_ok o1 ok
 rw [← meet_same]
 constructor
 ·intro e
  refine ok_inj m1 ok_nil fun n => ?_
  have := g2 n
  rw [e, has_one] at this
  rw [m2, has_one]
  show _ = false
  cases hv : inV x n
  ·rfl
  ·rw [hv] at this
   cases hc : has cm n
   ·rfl
   ·rw [hc] at this; cases this
 ·intro e
  refine ok_inj g1 o1 fun n => ?_
  have := m2 n
  rw [e, has_one] at this
  rw [g2, has_one]
  have h0 : has [] n = false := rfl
  rw [h0] at this
  cases hv : inV x n
  ·rfl
  ·rw [hv] at this
   cases hc : has cm n
   ·rfl
   ·rw [hc] at this; cases this
end Go.Proofs.YtalpfhpeaaocmaaGreat.C11
end
section
namespace Go.Proofs.YtalpfhpeaaocmaaGreat.C11
open Sx Go.RowKit C06
def v0 : Sq := ⟨0, [], 0, [], []⟩
def v1 : Sq := ⟨0, [97, 98, 99], 0, [], []⟩
def v2 : Sq := ⟨0, [97, 98, 99], 2, [⟨0, 2, 7, 1, false⟩], []⟩
def v3 : Sq := ⟨1, [98, 99], 2, [⟨1, 2, 7, 1, false⟩], []⟩
def v4 : Sq := ⟨1, [98, 99], 2, [⟨1, 2, 7, 1, true⟩], []⟩
end Go.Proofs.YtalpfhpeaaocmaaGreat.C11
end
section
namespace Go.Proofs.YtalpfhpeaaocmaaGreat.C11
open Sx Go.RowKit C06
theorem sChk_mk {s : Sq} (h1 : 0 ≤ s.b ∧ s.b ≤ 2000000) (h2 : s.b ≤ s.n ∧ s.n - s.b ≤ s.d.length) (h3 : s.d.length ≤ 4096) (h4 : cameB s = true) (h5 : flB s s.fl s.b = true) : sChk s = 0 := by
 have hw : IntKind.i64.wrap (s.n - s.b) = s.n - s.b := wrap_in (by omega) (by omega)
 have e : rngB s = false := decide_eq_false (by rw [hw]; unfold lastP; omega)
 unfold sChk
 rw [e, h4, h5]
 simp only [Bool.false_eq_true, if_false]
 rw [if_neg (by omega), if_neg (by simp), if_neg (by simp)]
theorem cameB_mk {s : Sq} (h : Ok s.cm) (g : ∀ x ∈ s.cm, s.b < x.1 ∧ x.2 ≤ s.n) : cameB s = true := by
 unfold cameB
 rw [decide_eq_true (iChk_iff.2 h), Bool.true_and, List.all_eq_true]
 intro x hx
 have := g x hx
 unfold camB
 simp; omega
structure Fit (s : Sq) (c : Ck) (a : Int) : Prop where
 f : a ≤ c.f
 ft : c.f < c.t
 n : c.t ≤ s.n
 z : c.t - c.f ≤ 48
 tm : (0 ≤ c.s ∧ c.s ≤ 1099511627776) ∧ (1 ≤ c.r ∧ c.r ≤ 1073741824)
 g : rGaps s.cm (ckI c) = [ckI c]
theorem fit_iff {s : Sq} {c : Ck} {a : Int} (ha : 0 ≤ a) (hn : s.n ≤ 2000000) : fitsB s c a = true ↔ Fit s c a := by
 constructor
 ·intro h
  obtain ⟨h1, h2, h3, h4, h5, h6, h7, h8⟩ := fits_in ha (by omega) h
  exact ⟨h1, h2, h3, h4, ⟨h6, h7⟩, h8⟩
 ·intro h
  have h1 := h.f
  have h2 := h.ft
  have h3 := h.n
  have h4 := h.z
  have h5 := h.tm
  have hw : cSz c = c.t - c.f := wrap_in (by omega) (by omega)
  unfold fitsB offB
  rw [hw, decide_eq_false (by omega), timB_iff.2 ⟨h5.1, by omega, h5.2.2⟩, decide_eq_true h.g]
  rfl
inductive Row (s : Sq) : List Ck → Int → Prop
 | nil (a : Int) : Row s [] a
 | cons {c : Ck} {l : List Ck} {a : Int} (h : Fit s c a) (t : Row s l c.t) : Row s (c :: l) a
theorem row_iff {s : Sq} (hn : s.n ≤ 2000000) : ∀ {l : List Ck} {a : Int}, 0 ≤ a → (flB s l a = true ↔ Row s l a)
 | [], a, _ => ⟨fun _ => .nil a, fun _ => rfl⟩
 | c :: l, a, ha => by
  unfold flB
  rw [Bool.and_eq_true, fit_iff ha hn]
  constructor
  ·rintro ⟨h1, h2⟩
   have := h1.f
   have := h1.ft
   exact .cons h1 ((row_iff hn (by omega)).1 h2)
  ·intro h
   cases h with
   | cons h1 h2 =>
    have := h1.f
    have := h1.ft
    exact ⟨h1, (row_iff hn (by omega)).2 h2⟩
theorem row_len {s : Sq} : ∀ {l : List Ck} {a : Int}, Row s l a → a ≤ s.n → (l.length : Int) ≤ s.n - a
 | [], a, _, h => by simp; omega
 | c :: l, a, h, _ => by
  cases h with
  | cons h1 h2 =>
   have := h1.f
   have := h1.ft
   have h3 := row_len h2 h1.n
   rw [List.length_cons]
   omega
theorem row_mem {s : Sq} : ∀ {l : List Ck} {a : Int}, Row s l a → ∀ c ∈ l, Fit s c a
 | [], a, _, c, hc => by cases hc
 | x :: l, a, h, c, hc => by
  cases h with
  | cons h1 h2 =>
   rcases List.mem_cons.1 hc with rfl | hc
   ·exact h1
   ·have h3 := row_mem h2 c hc
    have := h1.f
    have := h1.ft
    have := h3.f
    exact ⟨by omega, h3.ft, h3.n, h3.z, h3.tm, h3.g⟩
/-- Other ends, other marks. -/
theorem row_map {s s' : Sq} (hc : s'.cm = s.cm) (hn : s.n ≤ s'.n) (g : Ck → Ck) (hg : ∀ c, (g c).f = c.f ∧ (g c).t = c.t ∧ (g c).s = c.s ∧ (g c).r = c.r) : ∀ {l : List Ck} {a : Int}, Row s l a → Row s' (l.map g) a
 | [], a, _ => .nil a
 | c :: l, a, h => by
  cases h with
  | cons h1 h2 =>
   obtain ⟨e1, e2, e3, e4⟩ := hg c
   have e5 : ckI (g c) = ckI c := by unfold ckI; rw [e1, e2]
   refine .cons ⟨by rw [e1]; exact h1.f, by rw [e1, e2]; exact h1.ft, by rw [e2]; exact Int.le_trans h1.n hn, by rw [e1, e2]; exact h1.z, by rw [e3, e4]; exact h1.tm, by rw [e5, hc]; exact h1.g⟩ ?_
   rw [e2]
   exact row_map hc hn g hg h2
theorem row_set {s s' : Sq} (hc : s'.cm = s.cm) (hn : s.n ≤ s'.n) {c' : Ck} (ht : (0 ≤ c'.s ∧ c'.s ≤ 1099511627776) ∧ (1 ≤ c'.r ∧ c'.r ≤ 1073741824)) : ∀ {l : List Ck} {a : Int} {i : Nat} {c : Ck}, l[i]? = some c → c'.f = c.f → c'.t = c.t → Row s l a → Row s' (l.set i c') a
 | [], a, i, c, h, _, _, _ => by simp at h
 | x :: l, a, 0, c, h, e1, e2, hr => by
  simp at h
  subst h
  cases hr with
  | cons h1 h2 =>
   have e5 : ckI c' = ckI x := by unfold ckI; rw [e1, e2]
   refine .cons ⟨by rw [e1]; exact h1.f, by rw [e1, e2]; exact h1.ft, by rw [e2]; exact Int.le_trans h1.n hn, by rw [e1, e2]; exact h1.z, ht, by rw [e5, hc]; exact h1.g⟩ ?_
   rw [e2]
   have := row_map hc hn id (fun c => ⟨rfl, rfl, rfl, rfl⟩) h2
   rwa [List.map_id] at this
 | x :: l, a, i + 1, c, h, e1, e2, hr => by
  cases hr with
  | cons h1 h2 => exact .cons ⟨h1.f, h1.ft, Int.le_trans h1.n hn, h1.z, h1.tm, by rw [hc]; exact h1.g⟩ (row_set hc hn ht (i := i) (by simpa using h) e1 e2 h2)
theorem row_app {s : Sq} {m : List Ck} {e : Int} (hm : ∀ a, a ≤ e → Row s m a) : ∀ {l : List Ck} {a : Int}, Row s l a → a ≤ e → (∀ c ∈ l, c.t ≤ e) → Row s (l ++ m) a
 | [], a, _, h, _ => hm a h
 | c :: l, a, h, ha, hl => by
  cases h with
  | cons h1 h2 => exact .cons h1 (row_app hm h2 (hl c (by simp)) fun x hx => hl x (List.mem_cons_of_mem _ hx))
structure KI (s : Sq) (all : List UInt8) : Prop where
 b0 : 0 ≤ s.b
 bn : s.b ≤ s.n
 bl : s.b ≤ all.length
 dt : s.d = all.drop s.b.toNat
 nd : s.n ≤ all.length
 dl : s.d.length ≤ 4096
 al : all.length ≤ 1000000
 ok : Ok s.cm
 cm : ∀ x ∈ s.cm, s.b < x.1 ∧ x.2 ≤ s.n
 fl : Row s s.fl s.b
theorem KI.dlen {s : Sq} {all : List UInt8} (h : KI s all) : (s.d.length : Int) = all.length - s.b := by
 have h1 := h.b0
 have h2 := h.bl
 rw [h.dt, List.length_drop]
 omega
theorem KI.chk {s : Sq} {all : List UInt8} (h : KI s all) : sChk s = 0 := by
 have h1 := h.b0
 have h2 := h.bl
 have h3 := h.nd
 have h4 := h.al
 have h5 := h.dlen
 exact sChk_mk ⟨h1, by omega⟩ ⟨h.bn, by omega⟩ h.dl (cameB_mk h.ok h.cm) ((row_iff (by omega) h1).2 h.fl)
theorem KI.len {s : Sq} {all : List UInt8} (h : KI s all) : s.fl.length ≤ 4096 ∧ s.cm.length ≤ 4096 := by
 have h1 := h.b0
 have h2 := h.bl
 have h3 := h.nd
 have h5 := h.dlen
 have h6 := h.dl
 have h7 := h.bn
 have h8 := row_len h.fl h.bn
 refine ⟨by omega, ?_⟩
 have h9 := srt_len (e := -1) (M := s.n) h.ok.srt (fun x hx => (h.cm x hx).2) (by omega)
 rcases ends_or s.cm with g | ⟨y, z, g1, g2, g3, g4⟩
 ·rw [g]; simp
 ·have hy := h.cm y g3
  have h10 : Srt s.b s.cm := by
   have hs := h.ok.srt
   cases hc : s.cm with
   | nil => trivial
   | cons w l =>
    rw [hc] at hs
    have := h.cm w (by rw [hc]; simp)
    exact ⟨⟨this.1, hs.1.2⟩, hs.2⟩
  have := srt_len h10 (fun x hx => (h.cm x hx).2) h7
  omega
theorem KI.sq {s : Sq} {all : List UInt8} (h : KI s all) : SqOk s := by
 have h1 := h.b0
 have h2 := h.bl
 have h3 := h.nd
 have h4 := h.al
 have h5 := h.bn
 have h6 := h.len
 have h7 := h.dl
 exact ⟨by omega, by omega, by omega, by omega, by omega⟩
theorem ki0 : KI v0 [] := ⟨by decide, by decide, by decide, rfl, by decide, by decide, by decide, ok_nil, (fun x hx => by cases hx), .nil _⟩
theorem ki_write {s : Sq} {all : List UInt8} (h : KI s all) {x : List UInt8} (hx : all.length + x.length ≤ 1000000) :
  ∃ k : Nat, (rWrite s x).2 = k ∧ k ≤ x.length ∧ (k = x.length ∨ (rWrite s x).1.d.length = 4096) ∧ KI (rWrite s x).1 (all ++ x.take k) ∧ (rWrite s x).1.b = s.b ∧ (rWrite s x).1.n = s.n := by
 have h1 := h.b0
 have h2 := h.bl
 have h3 := h.nd
 have h4 := h.al
 have h5 := h.bn
 have h6 := h.dlen
 have h7 := h.dl
 have hN : wrN s x = min (x.length : Int) (4096 - (s.d.length : Int)) := rfl
 unfold rWrite
 rw [if_neg (by rw [h.chk]; simp), if_neg (by unfold lastP; omega)]
 refine ⟨(wrN s x).toNat, by show wrN s x = _; omega, by omega, ?_, ?_, rfl, rfl⟩
 ·show _ ∨ (s.d ++ x.take (wrN s x).toNat).length = 4096
  rw [List.length_append, List.length_take]
  omega
 ·have hl : (x.take (wrN s x).toNat).length ≤ (4096 - s.d.length) := by rw [List.length_take]; omega
  refine ⟨h1, h5, ?_, ?_, ?_, ?_, ?_, h.ok, h.cm, ?_⟩
  ·show s.b ≤ ((all ++ x.take (wrN s x).toNat).length : Int)
   rw [List.length_append]; omega
  ·show s.d ++ x.take (wrN s x).toNat = (all ++ x.take (wrN s x).toNat).drop s.b.toNat
   rw [List.drop_append_of_le_length (by omega), ← h.dt]
  ·show s.n ≤ ((all ++ x.take (wrN s x).toNat).length : Int)
   rw [List.length_append]; omega
  ·show (s.d ++ x.take (wrN s x).toNat).length ≤ 4096
   rw [List.length_append]; omega
  ·rw [List.length_append, List.length_take]; omega
  ·have := row_map (s := s) (s' := { s with d := s.d ++ x.take (wrN s x).toNat }) rfl (Int.le_refl _) id (fun c => ⟨rfl, rfl, rfl, rfl⟩) h.fl
   rwa [List.map_id] at this
structure Pk (s s' : Sq) (c : Ck) (t all : List UInt8) : Prop where
 f : 0 ≤ c.f
 ft : c.f ≤ c.t
 ta : c.t ≤ all.length
 eq : t = (all.drop c.f.toNat).take (c.t.toNat - c.f.toNat)
 z : t = [] → c = ck0
theorem bytes_eq {s : Sq} {all : List UInt8} (h : KI s all) {c : Ck} (hf : s.b ≤ c.f) (ht : c.f ≤ c.t) : bytesOf s c = (all.drop c.f.toNat).take (c.t.toNat - c.f.toNat) := by
 have h1 := h.b0
 unfold bytesOf
 rw [h.dt, List.drop_drop]
 congr 1
 ·omega
 ·congr 1; omega
theorem bytes_len {s : Sq} {all : List UInt8} (h : KI s all) {c : Ck} (hf : s.b ≤ c.f) (ht : c.f ≤ c.t) (hl : c.t ≤ all.length) : ((bytesOf s c).length : Int) = c.t - c.f := by
 have h1 := h.b0
 rw [bytes_eq h hf ht, List.length_take, List.length_drop]
 omega
theorem pk_mk {s s' : Sq} {all : List UInt8} (h : KI s all) {c : Ck} (hf : s.b ≤ c.f) (ht : c.f < c.t) (hl : c.t ≤ all.length) : Pk s s' c (bytesOf s c) all := by
 have h1 := h.b0
 refine ⟨by omega, by omega, hl, bytes_eq h hf (by omega), fun e => ?_⟩
 have := bytes_len h hf (by omega) hl
 rw [e] at this
 simp at this
 omega
theorem pk_0 (s : Sq) (all : List UInt8) : Pk s s ck0 [] all := ⟨by decide, by decide, by show (0:Int) ≤ _; omega, by show [] = List.take 0 _; rfl, fun _ => rfl⟩
theorem flight_in {s : Sq} {all : List UInt8} (h : KI s all) : 0 ≤ rFlight s ∧ rFlight s ≤ s.n - s.b := by
 have h3 := h.nd
 have h4 := h.al
 exact flight_bd (by omega) h.chk
theorem ki_pick {s : Sq} {all : List UInt8} (h : KI s all) {now win limit : Int} (hn : 0 ≤ now ∧ now ≤ 1000000) :
  KI (rPick s now win limit).1 all ∧ (rPick s now win limit).1.b = s.b ∧ s.n ≤ (rPick s now win limit).1.n ∧ Pk s (rPick s now win limit).1 (rPick s now win limit).2.1 (rPick s now win limit).2.2 all := by
 have h1 := h.b0
 have h2 := h.bl
 have h3 := h.nd
 have h4 := h.al
 have h5 := h.bn
 have h6 := h.dlen
 have h7 := h.dl
 have ht : tickB now = true := by unfold tickB; simp; omega
 unfold rPick
 rw [if_neg (by rw [h.chk, ht]; simp)]
 split
 ·next i hi =>
  split
  ·next c hc =>
   split
   ·have hF := row_mem h.fl c (get_mem hc)
    have f1 := hF.f
    have f2 := hF.ft
    have f3 := hF.n
    have f5 := hF.tm
    have hr : (again c now).r = min (c.r + 1) 1073741824 := by show min (IntKind.i64.wrap (c.r + 1)) _ = _; rw [wrap_in (by omega) (by omega)]
    refine ⟨⟨h1, h5, h2, h.dt, h3, h7, h4, h.ok, h.cm, ?_⟩, rfl, Int.le_refl _, ?_⟩
    ·exact row_set (s := s) (s' := { s with fl := s.fl.set i (again c now) }) (c' := again c now) rfl (Int.le_refl _) ⟨⟨hn.1, by show now ≤ _; omega⟩, by rw [hr]; omega, by rw [hr]; omega⟩ hc rfl rfl h.fl
    ·exact pk_mk (c := again c now) h f1 f2 (by show c.t ≤ _; omega)
   ·exact ⟨h, rfl, Int.le_refl _, pk_0 s all⟩
  ·exact ⟨h, rfl, Int.le_refl _, pk_0 s all⟩
 ·split
  ·exact ⟨h, rfl, Int.le_refl _, pk_0 s all⟩
  ·next hq =>
   have hfb := flight_in h
   have hp : 0 < pkN s win limit ∧ pkN s win limit ≤ s.b + (s.d.length : Int) - s.n ∧ pkN s win limit ≤ 48 := by unfold pkN; omega
   refine ⟨⟨h1, by show s.b ≤ s.n + _; omega, h2, h.dt, by show s.n + _ ≤ _; omega, h7, h4, h.ok, fun x hx => ?_, ?_⟩, rfl, by show s.n ≤ s.n + _; omega, ?_⟩
   ·have := h.cm x hx
    exact ⟨this.1, by show x.2 ≤ s.n + _; omega⟩
   ·have hr := row_map (s := s) (s' := { s with n := s.n + pkN s win limit, fl := s.fl ++ [pkC s now win limit] }) rfl (by show s.n ≤ s.n + _; omega) id (fun c => ⟨rfl, rfl, rfl, rfl⟩) h.fl
    rw [List.map_id] at hr
    refine row_app (e := s.n) (fun a ha => .cons ⟨ha, by show s.n < s.n + _; omega, Int.le_refl _, by show s.n + _ - s.n ≤ 48; omega, ⟨⟨hn.1, by show now ≤ _; omega⟩, by show (1:Int) ≤ 1; omega, by show (1:Int) ≤ _; omega⟩, ?_⟩ (.nil _)) hr h5 (fun c hc => (row_mem h.fl c hc).n)
    have o1 := ok_one (x := ckI (pkC s now win limit)) (by show 0 ≤ s.n; omega) (by show s.n < s.n + _; omega) (by show s.n + _ ≤ _; omega)
    refine (free_iff h.ok (by show 0 ≤ s.n; omega) (by show s.n < s.n + _; omega) (by show s.n + _ ≤ _; omega)).2 ?_
    rw [← meet_same]
    obtain ⟨m1, m2⟩ := meet_ok o1 h.ok
    refine ok_inj m1 ok_nil fun m => ?_
    rw [m2, has_one]
    show _ = false
    cases hv : inV (ckI (pkC s now win limit)) m
    ·rfl
    ·have hv' : s.n ≤ m ∧ m < s.n + pkN s win limit := of_decide_eq_true hv
     cases hc : has s.cm m
     ·rfl
     ·have := has_range (a := s.b) (b := s.n) (fun x hx => ⟨by have := h.cm x hx; omega, (h.cm x hx).2⟩) hc
      omega
   ·exact pk_mk (c := pkC s now win limit) h (by show s.b ≤ s.n; omega) (by show s.n < s.n + _; omega) (by show s.n + _ ≤ _; omega)
theorem ki_marks {s : Sq} {all : List UInt8} (h : KI s all) (g : Ck → Ck) (hg : ∀ c, (g c).f = c.f ∧ (g c).t = c.t ∧ (g c).s = c.s ∧ (g c).r = c.r) : KI { s with fl := s.fl.map g } all :=
 ⟨h.b0, h.bn, h.bl, h.dt, h.nd, h.dl, h.al, h.ok, h.cm, row_map (s := s) (s' := { s with fl := s.fl.map g }) rfl (Int.le_refl _) g hg h.fl⟩
theorem ki_expire {s : Sq} {all : List UInt8} (h : KI s all) : KI (rExpire s).1 all := ki_marks h lose1 fun c => ⟨rfl, rfl, rfl, rfl⟩
theorem ki_lose {s : Sq} {all : List UInt8} (h : KI s all) : KI (rLose s).1 all := by
 unfold rLose
 cases s.cm.getLast? with
 | none => exact h
 | some z => exact ki_marks h (loseC z.2) fun c => by unfold loseC; split <;> exact ⟨rfl, rfl, rfl, rfl⟩
theorem lose_b (s : Sq) : (rLose s).1.b = s.b ∧ (rLose s).1.n = s.n ∧ (rLose s).1.cm = s.cm ∧ (rLose s).1.d = s.d := by
 rw [rLose_eq]; exact ⟨rfl, rfl, rfl, rfl⟩
theorem ackF_flat (all : List Iv) (now : Int) : ∀ (l : List Ck) (p : List Ck × Int), (l.foldl (ackS all now) p).1 = p.1 ++ l.flatMap (fun c => lft c all)
 | [], p => by simp
 | c :: l, p => by
  rw [List.foldl_cons, ackF_flat all now l, List.flatMap_cons]
  show (p.1 ++ lft c all) ++ _ = _
  rw [List.append_assoc]
theorem row_parts {s : Sq} {c : Ck} (hn : c.t ≤ s.n) (hz : c.t - c.f ≤ 48) (ht : (0 ≤ c.s ∧ c.s ≤ 1099511627776) ∧ (1 ≤ c.r ∧ c.r ≤ 1073741824)) : ∀ {g : List Iv} {e a : Int}, Srt e g → (∀ x ∈ g, a ≤ x.1) → (∀ x ∈ g, c.f ≤ x.1 ∧ x.2 ≤ c.t) → (∀ x ∈ g, rGaps s.cm x = [x]) → Row s (g.map (part c)) a
 | [], e, a, _, _, _, _ => .nil a
 | x :: g, e, a, hs, ha, hr, hg => by
  have h1 := hs.1
  have h2 := hr x (by simp)
  refine .cons ⟨ha x (by simp), h1.2, by show x.2 ≤ _; omega, by show x.2 - x.1 ≤ _; omega, ht, hg x (by simp)⟩ ?_
  exact row_parts hn hz ht hs.2 (fun y hy => by have := srt_mem hs.2 y hy; show x.2 ≤ _; omega) (fun y hy => hr y (List.mem_cons_of_mem _ hy)) fun y hy => hg y (List.mem_cons_of_mem _ hy)
theorem row_app2 {s : Sq} {m : List Ck} {e : Int} (hm : ∀ a, a ≤ e → Row s m a) {l : List Ck} {a : Int} (h : Row s l a) (ha : a ≤ e) (hl : ∀ c ∈ l, c.t ≤ e) : Row s (l ++ m) a := row_app hm h ha hl
theorem gap_in {all : List Iv} (ok : Ok all) {c : Ck} (hm : mayB (ckI c) = true) : ∀ x ∈ rGaps all (ckI c), (c.f ≤ x.1 ∧ x.2 ≤ c.t) ∧ x.1 < x.2 ∧ ∀ m, inV x m = true → has all m = false := by
 obtain ⟨g1, g2⟩ := gaps_ok ok hm
 intro x hx
 have h1 := srt_mem g1.srt x hx
 have a1 : ∀ m, inV x m = true → inV (ckI c) m = true ∧ has all m = false := fun m hv => by
  have hv' : x.1 ≤ m ∧ m < x.2 := of_decide_eq_true hv
  have := g2 m
  rw [has_iff.2 ⟨x, hx, hv'⟩] at this
  have := this.symm
  rw [Bool.and_eq_true, Bool.not_eq_true'] at this
  exact this
 have b1 : c.f ≤ x.1 ∧ x.1 < c.t := of_decide_eq_true (a1 x.1 (decide_eq_true (by omega))).1
 have b2 : c.f ≤ x.2 - 1 ∧ x.2 - 1 < c.t := of_decide_eq_true (a1 (x.2 - 1) (decide_eq_true (by omega))).1
 exact ⟨⟨b1.1, by omega⟩, h1.2, fun m hv => (a1 m hv).2⟩
theorem row_flat {s s' : Sq} {all : List Iv} (hn : s'.n = s.n) (hs : s.n ≤ 2000000) (hb0 : 0 ≤ s.b) (ok : Ok all) (ok' : Ok s'.cm) (hc : ∀ m, has s'.cm m = true → has all m = true) (hb : ∀ m, s.b ≤ m → m < s'.b → has all m = true) : ∀ {l : List Ck} {a a' : Int}, s.b ≤ a → Row s l a → a' ≤ max a s'.b → Row s' (l.flatMap (fun c => lft c all)) a'
 | [], a, a', _, _, _ => .nil a'
 | c :: l, a, a', ha0, h, ha => by
  cases h with
  | cons h1 h2 =>
   have f1 := h1.f
   have f2 := h1.ft
   have f3 := h1.n
   have hm : mayB (ckI c) = true := mayB_iff.2 ⟨⟨by show 0 ≤ c.f; omega, by show c.f ≤ _; omega⟩, by show 0 ≤ c.t; omega, by show c.t ≤ _; omega⟩
   have hg := gap_in ok hm
   obtain ⟨g1, g2⟩ := gaps_ok ok hm
   rw [List.flatMap_cons]
   refine row_app2 (e := max c.t s'.b) (fun x hx => row_flat hn hs hb0 ok ok' hc hb (by omega) h2 hx) (row_parts (by omega) h1.z h1.tm g1.srt (fun x hx => ?_) (fun x hx => (hg x hx).1) (fun x hx => ?_)) (by omega) (fun y hy => ?_)
   ·obtain ⟨⟨k1, k2⟩, k3, k4⟩ := hg x hx
    by_cases q : x.1 < s'.b
    ·have := hb x.1 (by omega) q
     rw [k4 x.1 (decide_eq_true (by omega))] at this
     cases this
    ·omega
   ·obtain ⟨⟨k1, k2⟩, k3, k4⟩ := hg x hx
    refine (free_iff ok' (by omega) k3 (by omega)).2 ?_
    rw [← meet_same]
    obtain ⟨m1, m2⟩ := meet_ok (ok_one (x := x) (by omega) k3 (by omega)) ok'
    refine ok_inj m1 ok_nil fun m => ?_
    rw [m2, has_one]
    show _ = false
    cases hv : inV x m
    ·rfl
    ·cases hcm : has s'.cm m
     ·rfl
     ·have := hc m hcm
      rw [k4 m hv] at this
      cases this
   ·unfold lft at hy
    obtain ⟨x, hx, rfl⟩ := List.mem_map.1 hy
    have := (hg x hx).1
    show x.2 ≤ _
    omega
theorem ki_ack {s : Sq} {all : List UInt8} (h : KI s all) (u : Int) (l : List Iv) (now : Int) :
  KI (rAck s u l now).1 all ∧ s.b ≤ (rAck s u l now).1.b ∧ (rAck s u l now).1.n = s.n ∧ (mayQ s u l = true → u ≤ (rAck s u l now).1.b) := by
 have h1 := h.b0
 have h2 := h.bl
 have h3 := h.nd
 have h4 := h.al
 have h5 := h.bn
 have h6 := h.dlen
 have h7 := h.dl
 have hn := h.sq.n.2
 unfold rAck
 cases hq : mayQ s u l
 ·rw [if_pos rfl]
  exact ⟨h, Int.le_refl _, rfl, fun g => by cases g⟩
 ·rw [if_neg (by simp)]
  have ao := all_ok hn hq
  generalize ackAll s u l = cm at *
  obtain ⟨f1, f2, f3, f4⟩ := first_in ao
  have hbu := ao.bu
  generalize hB : rFirst cm u = B at *
  have hmf : mayB (0, B) = true := mayB_iff.2 ⟨⟨Int.le_refl _, by show (0:Int) ≤ _; omega⟩, by show 0 ≤ B; omega, by show B ≤ _; omega⟩
  obtain ⟨c1, c2⟩ := cut_has ao.ok hmf
  have hin : ∀ x ∈ rCut cm (0, B), B < x.1 ∧ x.2 ≤ s.n := fun x hx => by
   have hx1 := srt_mem c1.srt x hx
   have g1 := c2 x.1
   rw [has_iff.2 ⟨x, hx, by omega, by omega⟩] at g1
   have g1 := g1.symm
   rw [Bool.and_eq_true, Bool.not_eq_true'] at g1
   have g2 := c2 (x.2 - 1)
   rw [has_iff.2 ⟨x, hx, by omega, by omega⟩] at g2
   have g2 := g2.symm
   rw [Bool.and_eq_true] at g2
   have g3 := ao.rng _ g2.1
   have g4 : ¬(0 ≤ x.1 ∧ x.1 < B) := of_decide_eq_false g1.2
   have g5 : x.1 ≠ B := fun e => by rw [e, f3] at g1; exact absurd g1.1 (by simp)
   omega
  have key : KI (acO s u cm now) all := by
   have hx : (acO s u cm now).b = B := hB
   refine ⟨by rw [hx]; omega, by rw [hx]; exact f2, by rw [hx]; omega, ?_, h3, ?_, h4, ?_, ?_, ?_⟩
   ·show s.d.drop (rFirst cm u - s.b).toNat = all.drop (rFirst cm u).toNat
    rw [hB, h.dt, List.drop_drop]
    congr 1
    omega
   ·show (s.d.drop _).length ≤ _
    rw [List.length_drop]; omega
   ·show Ok (rCut cm (0, rFirst cm u))
    rw [hB]; exact c1
   ·intro x hxx
    rw [hx]
    have hxx : x ∈ rCut cm (0, rFirst cm u) := hxx
    rw [hB] at hxx
    exact hin x hxx
   ·rw [hx]
    show Row _ (ackF s cm now).1 B
    unfold ackF
    rw [ackF_flat, List.nil_append]
    refine row_flat (s := s) (s' := acO s u cm now) (all := cm) rfl (by omega) h1 ao.ok (by show Ok (rCut cm (0, rFirst cm u)); rw [hB]; exact c1) (fun m hm => ?_) (fun m m1 m2 => f4 m m1 (by rw [hx] at m2; exact m2)) (Int.le_refl _) h.fl (by rw [hx]; omega)
    have hm : has (rCut cm (0, rFirst cm u)) m = true := hm
    rw [hB, c2, Bool.and_eq_true] at hm
    exact hm.1
  obtain ⟨l1, l2, -, -⟩ := lose_b (acO s u cm now)
  refine ⟨ki_lose key, ?_, ?_, fun _ => ?_⟩
  ·show s.b ≤ (rLose _).1.b
   rw [l1]; show s.b ≤ rFirst cm u; rw [hB]; omega
  ·show (rLose _).1.n = _
   rw [l2]; rfl
  ·show u ≤ (rLose _).1.b
   rw [l1]; show u ≤ rFirst cm u; rw [hB]; omega
end Go.Proofs.YtalpfhpeaaocmaaGreat.C11
end
