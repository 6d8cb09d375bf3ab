/-
laws 18: what every right program takes and gives; ArenaChanges, ArenaTells. No condition beyond the statements' own.
-/
import Derived.Test.YtgdifegembfjoaaS7
set_option linter.unusedSimpArgs false
set_option linter.unusedVariables false
namespace Go.Proofs.Ytgdifegembfjoaa
open Sx Go.RowKit

def deCe : D → Ce | .agg [.bool v, .int _ x, .int _ k] => ⟨v, x, k⟩ | _ => ⟨false, 0, 0⟩
def gA (r : Ar → AV) : List D → Option (AV × List Ob) := fun | [.agg [.sl l, .int _ f, .int _ u]] => some (r ⟨l.map deCe, f, u⟩, []) | _ => none
def gA1 (r : Ar → Int → AV) : List D → Option (AV × List Ob) := fun | [.agg [.sl l, .int _ f, .int _ u], .int _ a] => some (r ⟨l.map deCe, f, u⟩ a, []) | _ => none
def gA2 (r : Ar → Int → Int → AV) : List D → Option (AV × List Ob) := fun | [.agg [.sl l, .int _ f, .int _ u], .int _ a, .int _ b] => some (r ⟨l.map deCe, f, u⟩ a b, []) | _ => none
def gAA (r : Ar → Ar → AV) : List D → Option (AV × List Ob) := fun | [.agg [.sl l, .int _ f, .int _ u], .agg [.sl l', .int _ f', .int _ u']] => some (r ⟨l.map deCe, f, u⟩ ⟨l'.map deCe, f', u'⟩, []) | _ => none
def deIn : D → Int | .int _ x => x | _ => 0
def gII : List D → Option (AV × List Ob) := fun | [.sl a, .sl b] => some (.d (.bool (decide (a.map deIn = b.map deIn))), []) | _ => none
def takeA (s : Ar) (v : Int) : AV := .tup [.d (arD (aTake s v).1), .d (.int .i64 (aTake s v).2.1), .d (.int .i64 (aTake s v).2.2)]
def giveA (s : Ar) (a : Int) : AV := .tup [.d (arD (aGive s a).1), .d (.int .i64 (aGive s a).2)]
def setA (s : Ar) (a v : Int) : AV := .tup [.d (arD (aSet s a v).1), .d (.int .i64 (aSet s a v).2)]
def getA (s : Ar) (a : Int) : AV := .tup [.d (.int .i64 (aGet s a).1), .d (.bool (aGet s a).2)]
def GA : List (Nat × (List D → Option (AV × List Ob))) := [
  (27, gAns (.d (arD ⟨[], -1, 0⟩))), (9, gA1 takeA), (11, gA1 giveA), (13, gA2 setA), (17, gA1 getA),
  (24, gA fun s => .d (.sl (inD (aSp s)))), (22, gA fun s => .d (.sl (inD (aLv s)))), (19, gA fun s => .d (.int .i64 (aChk s))),
  (26, gAA fun a b => .d (.bool (decide (a = b)))), (21, gII)]
set_option maxRecDepth 100000 in
set_option maxHeartbeats 1000000 in
theorem aw7  : FnOK Try.prog 7 ([]) ([]) (.d (.bool true)) ([]) := by
  refine fnOK_wp (p := (FnOK Try.prog (27 : Nat) [] [] (AV.d (D.agg [D.sl [], D.int IntKind.i64 (-1 : Int), D.int IntKind.i64 (0 : Int)])) []) ∧ ((FnOK Try.prog (9 : Nat) [AV.d (D.agg [D.sl [], D.int IntKind.i64 (-1 : Int), D.int IntKind.i64 (0 : Int)]), AV.d (D.int IntKind.i64 (5 : Int))] [] (AV.tup [AV.d (D.agg [D.sl [D.agg [D.bool true, D.int IntKind.i64 (5 : Int), D.int IntKind.i64 (0 : Int)]], D.int IntKind.i64 (-1 : Int), D.int IntKind.i64 (1 : Int)]), AV.d (D.int IntKind.i64 (0 : Int)), AV.d (D.int IntKind.i64 (0 : Int))]) []) ∧ ((FnOK Try.prog (9 : Nat) [AV.d (D.agg [D.sl [D.agg [D.bool true, D.int IntKind.i64 (5 : Int), D.int IntKind.i64 (0 : Int)]], D.int IntKind.i64 (-1 : Int), D.int IntKind.i64 (1 : Int)]), AV.d (D.int IntKind.i64 (7 : Int))] [] (AV.tup [AV.d (D.agg [D.sl [D.agg [D.bool true, D.int IntKind.i64 (5 : Int), D.int IntKind.i64 (0 : Int)], D.agg [D.bool true, D.int IntKind.i64 (7 : Int), D.int IntKind.i64 (0 : Int)]], D.int IntKind.i64 (-1 : Int), D.int IntKind.i64 (2 : Int)]), AV.d (D.int IntKind.i64 (1 : Int)), AV.d (D.int IntKind.i64 (0 : Int))]) []) ∧ ((FnOK Try.prog (11 : Nat) [AV.d (D.agg [D.sl [D.agg [D.bool true, D.int IntKind.i64 (5 : Int), D.int IntKind.i64 (0 : Int)], D.agg [D.bool true, D.int IntKind.i64 (7 : Int), D.int IntKind.i64 (0 : Int)]], D.int IntKind.i64 (-1 : Int), D.int IntKind.i64 (2 : Int)]), AV.d (D.int IntKind.i64 (0 : Int))] [] (AV.tup [AV.d (D.agg [D.sl [D.agg [D.bool false, D.int IntKind.i64 (0 : Int), D.int IntKind.i64 (-1 : Int)], D.agg [D.bool true, D.int IntKind.i64 (7 : Int), D.int IntKind.i64 (0 : Int)]], D.int IntKind.i64 (0 : Int), D.int IntKind.i64 (1 : Int)]), AV.d (D.int IntKind.i64 (0 : Int))]) []) ∧ ((FnOK Try.prog (9 : Nat) [AV.d (D.agg [D.sl [D.agg [D.bool false, D.int IntKind.i64 (0 : Int), D.int IntKind.i64 (-1 : Int)], D.agg [D.bool true, D.int IntKind.i64 (7 : Int), D.int IntKind.i64 (0 : Int)]], D.int IntKind.i64 (0 : Int), D.int IntKind.i64 (1 : Int)]), AV.d (D.int IntKind.i64 (9 : Int))] [] (AV.tup [AV.d (D.agg [D.sl [D.agg [D.bool true, D.int IntKind.i64 (9 : Int), D.int IntKind.i64 (0 : Int)], D.agg [D.bool true, D.int IntKind.i64 (7 : Int), D.int IntKind.i64 (0 : Int)]], D.int IntKind.i64 (-1 : Int), D.int IntKind.i64 (2 : Int)]), AV.d (D.int IntKind.i64 (0 : Int)), AV.d (D.int IntKind.i64 (0 : Int))]) []) ∧ ((FnOK Try.prog (17 : Nat) [AV.d (D.agg [D.sl [D.agg [D.bool true, D.int IntKind.i64 (9 : Int), D.int IntKind.i64 (0 : Int)], D.agg [D.bool true, D.int IntKind.i64 (7 : Int), D.int IntKind.i64 (0 : Int)]], D.int IntKind.i64 (-1 : Int), D.int IntKind.i64 (2 : Int)]), AV.d (D.int IntKind.i64 (0 : Int))] [] (AV.tup [AV.d (D.int IntKind.i64 (9 : Int)), AV.d (D.bool true)]) []) ∧ ((FnOK Try.prog (13 : Nat) [AV.d (D.agg [D.sl [D.agg [D.bool true, D.int IntKind.i64 (9 : Int), D.int IntKind.i64 (0 : Int)], D.agg [D.bool true, D.int IntKind.i64 (7 : Int), D.int IntKind.i64 (0 : Int)]], D.int IntKind.i64 (-1 : Int), D.int IntKind.i64 (2 : Int)]), AV.d (D.int IntKind.i64 (1 : Int)), AV.d (D.int IntKind.i64 (3 : Int))] [] (AV.tup [AV.d (D.agg [D.sl [D.agg [D.bool true, D.int IntKind.i64 (9 : Int), D.int IntKind.i64 (0 : Int)], D.agg [D.bool true, D.int IntKind.i64 (3 : Int), D.int IntKind.i64 (0 : Int)]], D.int IntKind.i64 (-1 : Int), D.int IntKind.i64 (2 : Int)]), AV.d (D.int IntKind.i64 (0 : Int))]) []) ∧ ((FnOK Try.prog (11 : Nat) [AV.d (D.agg [D.sl [D.agg [D.bool true, D.int IntKind.i64 (9 : Int), D.int IntKind.i64 (0 : Int)], D.agg [D.bool true, D.int IntKind.i64 (7 : Int), D.int IntKind.i64 (0 : Int)]], D.int IntKind.i64 (-1 : Int), D.int IntKind.i64 (2 : Int)]), AV.d (D.int IntKind.i64 (2 : Int))] [] (AV.tup [AV.d (D.agg [D.sl [D.agg [D.bool true, D.int IntKind.i64 (9 : Int), D.int IntKind.i64 (0 : Int)], D.agg [D.bool true, D.int IntKind.i64 (7 : Int), D.int IntKind.i64 (0 : Int)]], D.int IntKind.i64 (-1 : Int), D.int IntKind.i64 (2 : Int)]), AV.d (D.int IntKind.i64 (6 : Int))]) []) ∧ ((D.bool true = D.bool true) ∧ ((D.bool true = D.bool true) ∧ ((D.bool true = D.bool true) ∧ ((D.bool true = D.bool true) ∧ ((D.bool true = D.bool true) ∧ ((FnOK Try.prog (24 : Nat) [AV.d (D.agg [D.sl [D.agg [D.bool false, D.int IntKind.i64 (0 : Int), D.int IntKind.i64 (-1 : Int)], D.agg [D.bool true, D.int IntKind.i64 (7 : Int), D.int IntKind.i64 (0 : Int)]], D.int IntKind.i64 (0 : Int), D.int IntKind.i64 (1 : Int)])] [] (AV.d (D.sl [D.int IntKind.i64 (0 : Int)])) []) ∧ ((FnOK Try.prog (21 : Nat) [AV.d (D.sl [D.int IntKind.i64 (0 : Int)]), AV.d (D.sl [D.int IntKind.i64 (0 : Int)])] [] (AV.d (D.bool true)) []) ∧ ((D.bool true = D.bool true) ∧ ((D.bool true = D.bool true) ∧ ((D.bool true = D.bool true) ∧ ((D.bool true = D.bool true) ∧ ((D.bool true = D.bool true) ∧ ((D.bool true = D.bool true) ∧ (((0 : Int) ≤ (1 : Int)) ∧ ((some (D.agg [D.bool true, D.int IntKind.i64 (3 : Int), D.int IntKind.i64 (0 : Int)]) = some (D.agg [D.bool true, D.int IntKind.i64 (3 : Int), D.int IntKind.i64 (0 : Int)])) ∧ ((D.bool true = D.bool true) ∧ ((D.bool true = D.bool true) ∧ ((D.bool true = D.bool true) ∧ ((FnOK Try.prog (22 : Nat) [AV.d (D.agg [D.sl [D.agg [D.bool true, D.int IntKind.i64 (9 : Int), D.int IntKind.i64 (0 : Int)], D.agg [D.bool true, D.int IntKind.i64 (7 : Int), D.int IntKind.i64 (0 : Int)]], D.int IntKind.i64 (-1 : Int), D.int IntKind.i64 (2 : Int)])] [] (AV.d (D.sl [D.int IntKind.i64 (0 : Int), D.int IntKind.i64 (1 : Int)])) []) ∧ ((FnOK Try.prog (21 : Nat) [AV.d (D.sl [D.int IntKind.i64 (0 : Int), D.int IntKind.i64 (1 : Int)]), AV.d (D.sl [D.int IntKind.i64 (0 : Int), D.int IntKind.i64 (1 : Int)])] [] (AV.d (D.bool true)) []) ∧ ((D.bool true = D.bool true) ∧ ((FnOK Try.prog (19 : Nat) [AV.d (D.agg [D.sl [D.agg [D.bool true, D.int IntKind.i64 (9 : Int), D.int IntKind.i64 (0 : Int)], D.agg [D.bool true, D.int IntKind.i64 (7 : Int), D.int IntKind.i64 (0 : Int)]], D.int IntKind.i64 (-1 : Int), D.int IntKind.i64 (2 : Int)])] [] (AV.d (D.int IntKind.i64 (0 : Int))) []) ∧ ((D.bool true = D.bool true) ∧ ((FnOK Try.prog (19 : Nat) [AV.d (D.agg [D.sl [], D.int IntKind.i64 (0 : Int), D.int IntKind.i64 (0 : Int)])] [] (AV.d (D.int IntKind.i64 (8 : Int))) []) ∧ ((D.bool true = D.bool true) ∧ ((FnOK Try.prog (26 : Nat) [AV.d (D.agg [D.sl [D.agg [D.bool false, D.int IntKind.i64 (0 : Int), D.int IntKind.i64 (-1 : Int)], D.agg [D.bool true, D.int IntKind.i64 (7 : Int), D.int IntKind.i64 (0 : Int)]], D.int IntKind.i64 (0 : Int), D.int IntKind.i64 (1 : Int)]), AV.d (D.agg [D.sl [D.agg [D.bool true, D.int IntKind.i64 (9 : Int), D.int IntKind.i64 (0 : Int)], D.agg [D.bool true, D.int IntKind.i64 (7 : Int), D.int IntKind.i64 (0 : Int)]], D.int IntKind.i64 (-1 : Int), D.int IntKind.i64 (2 : Int)])] [] (AV.d (D.bool false)) []) ∧ ((D.bool true = D.bool true) ∧ ((FnOK Try.prog (26 : Nat) [AV.d (D.agg [D.sl [D.agg [D.bool true, D.int IntKind.i64 (9 : Int), D.int IntKind.i64 (0 : Int)], D.agg [D.bool true, D.int IntKind.i64 (7 : Int), D.int IntKind.i64 (0 : Int)]], D.int IntKind.i64 (-1 : Int), D.int IntKind.i64 (2 : Int)]), AV.d (D.agg [D.sl [D.agg [D.bool true, D.int IntKind.i64 (9 : Int), D.int IntKind.i64 (0 : Int)], D.agg [D.bool true, D.int IntKind.i64 (7 : Int), D.int IntKind.i64 (0 : Int)]], D.int IntKind.i64 (-1 : Int), D.int IntKind.i64 (2 : Int)])] [] (AV.d (D.bool true)) []) ∧ ((AV.d (D.bool true) = AV.d (D.bool true)) ∧ (True)))))))))))))))))))))))))))))))))))))) (h := {G := GA, chain := true, els := [(103, .el (ceD ⟨true, 3, 0⟩))]}) (subs := []) (ws := []) (ρ := []) (by kernel_rfl) ?_
  repeat' (first | with_reducible exact True.intro | with_reducible refine And.intro ?_ ?_ | with_reducible refine condP_dec (fun _ => ?_) (fun _ => ?_) | with_reducible refine condP_eq (fun _ => ?_) (fun _ => ?_) | with_reducible refine condP_ne (fun _ => ?_) (fun _ => ?_) | with_reducible refine condP_not (condP_dec (fun _ => ?_) (fun _ => ?_)) | with_reducible refine condP_not (condP_eq (fun _ => ?_) (fun _ => ?_)) | with_reducible refine condP_not (condP_intro (fun _ => ?_) (fun _ => ?_)) | with_reducible refine condP_intro (fun _ => ?_) (fun _ => ?_))
  all_goals first | rfl | decide | first | exact new27 | (refine fnOK_rv (take9 ⟨[], _, _⟩ (by decide) _) ?_; kernel_rfl) | (refine fnOK_rv (take9 ⟨[⟨_, _, _⟩], _, _⟩ (by decide) _) ?_; kernel_rfl) | (refine fnOK_rv (take9 ⟨[⟨_, _, _⟩, ⟨_, _, _⟩], _, _⟩ (by decide) _) ?_; kernel_rfl) | (refine fnOK_rv (give11 ⟨[⟨_, _, _⟩, ⟨_, _, _⟩], _, _⟩ (by decide) _) ?_; kernel_rfl) | (refine fnOK_rv (set13 ⟨[⟨_, _, _⟩, ⟨_, _, _⟩], _, _⟩ (by decide) _ _) ?_; kernel_rfl) | (refine fnOK_rv (get17 ⟨[⟨_, _, _⟩, ⟨_, _, _⟩], _, _⟩ (by decide) _) ?_; kernel_rfl) | (refine fnOK_rv (spare24 ⟨[⟨_, _, _⟩, ⟨_, _, _⟩], _, _⟩ (by decide)) ?_; kernel_rfl) | (refine fnOK_rv (live22 ⟨[⟨_, _, _⟩, ⟨_, _, _⟩], _, _⟩ (by decide)) ?_; kernel_rfl) | (refine fnOK_rv (chk19 ⟨[⟨_, _, _⟩, ⟨_, _, _⟩], _, _⟩ (by decide)) ?_; kernel_rfl) | (refine fnOK_rv (chk19 ⟨[], _, _⟩ (by decide)) ?_; kernel_rfl) | (refine fnOK_rv (same26 ⟨[⟨_, _, _⟩, ⟨_, _, _⟩], _, _⟩ ⟨[⟨_, _, _⟩, ⟨_, _, _⟩], _, _⟩ (by decide)) ?_; kernel_rfl) | (refine fnOK_rv (ints21 [_] [_] (show (1 : Nat) < 1000000 by decide)) ?_; kernel_rfl) | (refine fnOK_rv (ints21 [_, _] [_, _] (show (2 : Nat) < 1000000 by decide)) ?_; kernel_rfl)

theorem aTake_len (s : Ar) (v : Int) : (aTake s v).1.l.length ≤ s.l.length + 1 := by
  unfold aTake
  split
  · simp
  split
  · simp
  split <;> simp
theorem aGive_len (s : Ar) (a : Int) : (aGive s a).1.l.length = s.l.length := by
  unfold aGive
  split
  · rfl
  split <;> simp
theorem aSet_len (s : Ar) (a v : Int) : (aSet s a v).1.l.length = s.l.length := by
  unfold aSet
  split
  · rfl
  split <;> simp
set_option maxRecDepth 100000 in
set_option maxHeartbeats 1000000 in
theorem chg3 (st : Ar) (at_ v : Int) (hl : st.l.length ≤ 80) (A C M : Ar) (i e g j : Int) (hA : (aTake st v).1 = A) (hi : (aTake st v).2.1 = i) (he : (aTake st v).2.2 = e) (hC : (aGive st at_).1 = C) (hg : (aGive st at_).2 = g) (hM : (aSet st at_ v).1 = M) (hj : (aSet st at_ v).2 = j) : FnOK Try.prog 3 ([.d (arD st), .d (.int .i64 at_), .d (.int .i64 v)]) ([]) (.d (.bool true)) ([]) := by
  refine fnOK_wp (p := (D.bool (decide ((↑(List.map ceD st.l).length : Int) > (80 : Int))) = D.bool false) ∧ ((FnOK Try.prog (8 : Nat) [AV.d (D.agg [D.sl (List.map ceD st.l), D.int IntKind.i64 st.f, D.int IntKind.i64 st.u])] [] (AV.d (D.agg [D.sl (List.map ceD st.l), D.int IntKind.i64 st.f, D.int IntKind.i64 st.u])) []) ∧ ((FnOK Try.prog (9 : Nat) [AV.d (D.agg [D.sl (List.map ceD st.l), D.int IntKind.i64 st.f, D.int IntKind.i64 st.u]), AV.d (D.int IntKind.i64 v)] [] (AV.tup [AV.d (D.agg [D.sl (List.map ceD A.l), D.int IntKind.i64 A.f, D.int IntKind.i64 A.u]), AV.d (D.int IntKind.i64 i), AV.d (D.int IntKind.i64 e)]) []) ∧ ((FnOK Try.prog (10 : Nat) [AV.d (D.agg [D.sl (List.map ceD st.l), D.int IntKind.i64 st.f, D.int IntKind.i64 st.u]), AV.d (D.int IntKind.i64 v)] [] (AV.tup [AV.d (D.agg [D.sl (List.map ceD A.l), D.int IntKind.i64 A.f, D.int IntKind.i64 A.u]), AV.d (D.int IntKind.i64 i), AV.d (D.int IntKind.i64 e)]) []) ∧ ((FnOK Try.prog (11 : Nat) [AV.d (D.agg [D.sl (List.map ceD st.l), D.int IntKind.i64 st.f, D.int IntKind.i64 st.u]), AV.d (D.int IntKind.i64 at_)] [] (AV.tup [AV.d (D.agg [D.sl (List.map ceD C.l), D.int IntKind.i64 C.f, D.int IntKind.i64 C.u]), AV.d (D.int IntKind.i64 g)]) []) ∧ ((FnOK Try.prog (12 : Nat) [AV.d (D.agg [D.sl (List.map ceD st.l), D.int IntKind.i64 st.f, D.int IntKind.i64 st.u]), AV.d (D.int IntKind.i64 at_)] [] (AV.tup [AV.d (D.agg [D.sl (List.map ceD C.l), D.int IntKind.i64 C.f, D.int IntKind.i64 C.u]), AV.d (D.int IntKind.i64 g)]) []) ∧ ((FnOK Try.prog (13 : Nat) [AV.d (D.agg [D.sl (List.map ceD st.l), D.int IntKind.i64 st.f, D.int IntKind.i64 st.u]), AV.d (D.int IntKind.i64 at_), AV.d (D.int IntKind.i64 v)] [] (AV.tup [AV.d (D.agg [D.sl (List.map ceD M.l), D.int IntKind.i64 M.f, D.int IntKind.i64 M.u]), AV.d (D.int IntKind.i64 j)]) []) ∧ ((FnOK Try.prog (14 : Nat) [AV.d (D.agg [D.sl (List.map ceD st.l), D.int IntKind.i64 st.f, D.int IntKind.i64 st.u]), AV.d (D.int IntKind.i64 at_), AV.d (D.int IntKind.i64 v)] [] (AV.tup [AV.d (D.agg [D.sl (List.map ceD M.l), D.int IntKind.i64 M.f, D.int IntKind.i64 M.u]), AV.d (D.int IntKind.i64 j)]) []) ∧ ((FnOK Try.prog (16 : Nat) [AV.d (D.agg [D.sl (List.map ceD A.l), D.int IntKind.i64 A.f, D.int IntKind.i64 A.u])] [] (AV.d (D.agg [D.sl (List.map ceD A.l), D.int IntKind.i64 A.f, D.int IntKind.i64 A.u])) []) ∧ ((FnOK Try.prog (15 : Nat) [AV.d (D.agg [D.sl (List.map ceD A.l), D.int IntKind.i64 A.f, D.int IntKind.i64 A.u]), AV.d (D.agg [D.sl (List.map ceD A.l), D.int IntKind.i64 A.f, D.int IntKind.i64 A.u])] [] (AV.d (D.bool true)) []) ∧ ((D.bool true = D.bool true) ∧ ((D.bool (i == i) = D.bool true) ∧ ((D.bool (e == e) = D.bool true) ∧ ((FnOK Try.prog (16 : Nat) [AV.d (D.agg [D.sl (List.map ceD C.l), D.int IntKind.i64 C.f, D.int IntKind.i64 C.u])] [] (AV.d (D.agg [D.sl (List.map ceD C.l), D.int IntKind.i64 C.f, D.int IntKind.i64 C.u])) []) ∧ ((FnOK Try.prog (15 : Nat) [AV.d (D.agg [D.sl (List.map ceD C.l), D.int IntKind.i64 C.f, D.int IntKind.i64 C.u]), AV.d (D.agg [D.sl (List.map ceD C.l), D.int IntKind.i64 C.f, D.int IntKind.i64 C.u])] [] (AV.d (D.bool true)) []) ∧ ((D.bool true = D.bool true) ∧ ((D.bool (g == g) = D.bool true) ∧ ((FnOK Try.prog (16 : Nat) [AV.d (D.agg [D.sl (List.map ceD M.l), D.int IntKind.i64 M.f, D.int IntKind.i64 M.u])] [] (AV.d (D.agg [D.sl (List.map ceD M.l), D.int IntKind.i64 M.f, D.int IntKind.i64 M.u])) []) ∧ ((FnOK Try.prog (15 : Nat) [AV.d (D.agg [D.sl (List.map ceD M.l), D.int IntKind.i64 M.f, D.int IntKind.i64 M.u]), AV.d (D.agg [D.sl (List.map ceD M.l), D.int IntKind.i64 M.f, D.int IntKind.i64 M.u])] [] (AV.d (D.bool true)) []) ∧ ((D.bool true = D.bool true) ∧ ((D.bool (j == j) = D.bool true) ∧ ((FnOK Try.prog (16 : Nat) [AV.d (D.agg [D.sl (List.map ceD st.l), D.int IntKind.i64 st.f, D.int IntKind.i64 st.u])] [] (AV.d (D.agg [D.sl (List.map ceD st.l), D.int IntKind.i64 st.f, D.int IntKind.i64 st.u])) []) ∧ ((FnOK Try.prog (15 : Nat) [AV.d (D.agg [D.sl (List.map ceD st.l), D.int IntKind.i64 st.f, D.int IntKind.i64 st.u]), AV.d (D.agg [D.sl (List.map ceD st.l), D.int IntKind.i64 st.f, D.int IntKind.i64 st.u])] [] (AV.d (D.bool true)) []) ∧ ((D.bool true = D.bool true) ∧ ((FnOK Try.prog (7 : Nat) [] [] (AV.d (D.bool true)) []) ∧ ((AV.d (D.bool true) = AV.d (D.bool true)) ∧ (True))))))))))))))))))))))))))) (h := {chain := true, H := [(1, [(3, .val (.bool false))])], G := [(8, gId), (16, gId), (15, gYes), (7, gYes), (9, gAns (.tup [.d (arD A), .d (.int .i64 i), .d (.int .i64 e)])), (10, gAns (.tup [.d (arD A), .d (.int .i64 i), .d (.int .i64 e)])), (11, gAns (.tup [.d (arD C), .d (.int .i64 g)])), (12, gAns (.tup [.d (arD C), .d (.int .i64 g)])), (13, gAns (.tup [.d (arD M), .d (.int .i64 j)])), (14, gAns (.tup [.d (arD M), .d (.int .i64 j)]))]}) (subs := []) (ws := []) (ρ := []) (by kernel_rfl) ?_
  have hs : ∀ a : Ar, a.l.length < 1000000 → FnOK Try.prog 15 [.d (arD a), .d (arD a)] [] (.d (.bool true)) [] := fun a ha => by
    have h := same15 a a ha
    rw [decide_eq_true rfl] at h
    exact h
  have q1 := aTake_len st v
  have q2 := aGive_len st at_
  have q3 := aSet_len st at_ v
  have c0 := own8 st (by omega)
  have c1 := take9 st (by omega) v
  have c2 := take10 st (by omega) v
  have c3 := give11 st (by omega) at_
  have c4 := give12 st (by omega) at_
  have c5 := set13 st (by omega) at_ v
  have c6 := set14 st (by omega) at_ v
  rw [hA, hi, he] at c1 c2
  rw [hC, hg] at c3 c4
  rw [hM, hj] at c5 c6
  rw [hA] at q1
  rw [hC] at q2
  rw [hM] at q3
  repeat' (first | with_reducible exact True.intro | with_reducible refine And.intro ?_ ?_ | with_reducible refine condP_dec (fun _ => ?_) (fun _ => ?_) | with_reducible refine condP_eq (fun _ => ?_) (fun _ => ?_) | with_reducible refine condP_ne (fun _ => ?_) (fun _ => ?_) | with_reducible refine condP_not (condP_dec (fun _ => ?_) (fun _ => ?_)) | with_reducible refine condP_not (condP_eq (fun _ => ?_) (fun _ => ?_)) | with_reducible refine condP_not (condP_intro (fun _ => ?_) (fun _ => ?_)) | with_reducible refine condP_intro (fun _ => ?_) (fun _ => ?_))
  all_goals first | exact c0 | exact c1 | exact c2 | exact c3 | exact c4 | exact c5 | exact c6 | exact aw7 | exact hs _ (by omega) | exact back16 _ (by omega) | rfl | exact dno (by simp; omega) | decide | (refine congrArg D.bool ?_; simp; done) | (exfalso; simp_all; done) | skip

set_option maxRecDepth 100000 in
set_option maxHeartbeats 1000000 in
theorem chg3n (st : Ar) (at_ v : Int) (hl : ¬st.l.length ≤ 80) : FnOK Try.prog 3 ([.d (arD st), .d (.int .i64 at_), .d (.int .i64 v)]) ([]) (.d (.bool true)) ([]) := by
  refine fnOK_wp (p := (D.bool (decide ((↑(List.map ceD st.l).length : Int) > (80 : Int))) = D.bool true) ∧ ((FnOK Try.prog (7 : Nat) [] [] (AV.d (D.bool true)) []) ∧ ((AV.d (D.bool true) = AV.d (D.bool true)) ∧ (True)))) (h := {H := [(1, [(3, .val (.bool true))])], G := [(7, gYes)]}) (subs := []) (ws := []) (ρ := []) (by kernel_rfl) ?_
  repeat' (first | with_reducible exact True.intro | with_reducible refine And.intro ?_ ?_ | with_reducible refine condP_dec (fun _ => ?_) (fun _ => ?_) | with_reducible refine condP_eq (fun _ => ?_) (fun _ => ?_) | with_reducible refine condP_ne (fun _ => ?_) (fun _ => ?_) | with_reducible refine condP_not (condP_dec (fun _ => ?_) (fun _ => ?_)) | with_reducible refine condP_not (condP_eq (fun _ => ?_) (fun _ => ?_)) | with_reducible refine condP_not (condP_intro (fun _ => ?_) (fun _ => ?_)) | with_reducible refine condP_intro (fun _ => ?_) (fun _ => ?_))
  all_goals first | exact aw7 | rfl | exact dyes (by simp; omega) | skip

set_option maxRecDepth 100000 in
set_option maxHeartbeats 1000000 in
theorem tel4 (st o : Ar) (at_ : Int) (hl : st.l.length ≤ 80) (ho : o.l.length ≤ 80) (e : Int) (L S : List Int) (v : Int) (is q : Bool) (he : aChk st = e) (hL : aLv st = L) (hS : aSp st = S) (hv : (aGet st at_).1 = v) (hi : (aGet st at_).2 = is) (hq : decide (st = o) = q) (kL : L.length < 1000000) (kS : S.length < 1000000) : FnOK Try.prog 4 ([.d (arD st), .d (arD o), .d (.int .i64 at_)]) ([]) (.d (.bool true)) ([]) := by
  refine fnOK_wp (p := (D.bool (decide ((↑(List.map ceD st.l).length : Int) > (80 : Int))) = D.bool false) ∧ ((D.bool false = D.bool false) ∧ ((D.bool (decide ((↑(List.map ceD o.l).length : Int) > (80 : Int))) = D.bool false) ∧ ((FnOK Try.prog (8 : Nat) [AV.d (D.agg [D.sl (List.map ceD st.l), D.int IntKind.i64 st.f, D.int IntKind.i64 st.u])] [] (AV.d (D.agg [D.sl (List.map ceD st.l), D.int IntKind.i64 st.f, D.int IntKind.i64 st.u])) []) ∧ ((FnOK Try.prog (17 : Nat) [AV.d (D.agg [D.sl (List.map ceD st.l), D.int IntKind.i64 st.f, D.int IntKind.i64 st.u]), AV.d (D.int IntKind.i64 at_)] [] (AV.tup [AV.d (D.int IntKind.i64 v), AV.d (D.bool is)]) []) ∧ ((FnOK Try.prog (18 : Nat) [AV.d (D.agg [D.sl (List.map ceD st.l), D.int IntKind.i64 st.f, D.int IntKind.i64 st.u]), AV.d (D.int IntKind.i64 at_)] [] (AV.tup [AV.d (D.int IntKind.i64 v), AV.d (D.bool is)]) []) ∧ ((FnOK Try.prog (19 : Nat) [AV.d (D.agg [D.sl (List.map ceD st.l), D.int IntKind.i64 st.f, D.int IntKind.i64 st.u])] [] (AV.d (D.int IntKind.i64 e)) []) ∧ ((FnOK Try.prog (20 : Nat) [AV.d (D.agg [D.sl (List.map ceD st.l), D.int IntKind.i64 st.f, D.int IntKind.i64 st.u])] [] (AV.d (D.int IntKind.i64 e)) []) ∧ ((D.bool (e == e) = D.bool true) ∧ ((FnOK Try.prog (22 : Nat) [AV.d (D.agg [D.sl (List.map ceD st.l), D.int IntKind.i64 st.f, D.int IntKind.i64 st.u])] [] (AV.d (D.sl (inD L))) []) ∧ ((FnOK Try.prog (23 : Nat) [AV.d (D.agg [D.sl (List.map ceD st.l), D.int IntKind.i64 st.f, D.int IntKind.i64 st.u])] [] (AV.d (D.sl (inD L))) []) ∧ ((FnOK Try.prog (21 : Nat) [AV.d (D.sl (inD L)), AV.d (D.sl (inD L))] [] (AV.d (D.bool true)) []) ∧ ((D.bool true = D.bool true) ∧ ((FnOK Try.prog (24 : Nat) [AV.d (D.agg [D.sl (List.map ceD st.l), D.int IntKind.i64 st.f, D.int IntKind.i64 st.u])] [] (AV.d (D.sl (inD S))) []) ∧ ((FnOK Try.prog (25 : Nat) [AV.d (D.agg [D.sl (List.map ceD st.l), D.int IntKind.i64 st.f, D.int IntKind.i64 st.u])] [] (AV.d (D.sl (inD S))) []) ∧ ((FnOK Try.prog (21 : Nat) [AV.d (D.sl (inD S)), AV.d (D.sl (inD S))] [] (AV.d (D.bool true)) []) ∧ ((D.bool true = D.bool true) ∧ ((D.bool (v == v) = D.bool true) ∧ ((D.bool (is == is) = D.bool true) ∧ ((FnOK Try.prog (8 : Nat) [AV.d (D.agg [D.sl (List.map ceD o.l), D.int IntKind.i64 o.f, D.int IntKind.i64 o.u])] [] (AV.d (D.agg [D.sl (List.map ceD o.l), D.int IntKind.i64 o.f, D.int IntKind.i64 o.u])) []) ∧ ((FnOK Try.prog (26 : Nat) [AV.d (D.agg [D.sl (List.map ceD st.l), D.int IntKind.i64 st.f, D.int IntKind.i64 st.u]), AV.d (D.agg [D.sl (List.map ceD o.l), D.int IntKind.i64 o.f, D.int IntKind.i64 o.u])] [] (AV.d (D.bool q)) []) ∧ ((FnOK Try.prog (15 : Nat) [AV.d (D.agg [D.sl (List.map ceD st.l), D.int IntKind.i64 st.f, D.int IntKind.i64 st.u]), AV.d (D.agg [D.sl (List.map ceD o.l), D.int IntKind.i64 o.f, D.int IntKind.i64 o.u])] [] (AV.d (D.bool q)) []) ∧ ((D.bool (q == q) = D.bool true) ∧ ((FnOK Try.prog (27 : Nat) [] [] (AV.d (D.agg [D.sl [], D.int IntKind.i64 (-1 : Int), D.int IntKind.i64 (0 : Int)])) []) ∧ ((FnOK Try.prog (16 : Nat) [AV.d (D.agg [D.sl [], D.int IntKind.i64 (-1 : Int), D.int IntKind.i64 (0 : Int)])] [] (AV.d (D.agg [D.sl [], D.int IntKind.i64 (-1 : Int), D.int IntKind.i64 (0 : Int)])) []) ∧ ((FnOK Try.prog (28 : Nat) [] [] (AV.d (D.agg [D.sl [], D.int IntKind.i64 (-1 : Int), D.int IntKind.i64 (0 : Int)])) []) ∧ ((FnOK Try.prog (15 : Nat) [AV.d (D.agg [D.sl [], D.int IntKind.i64 (-1 : Int), D.int IntKind.i64 (0 : Int)]), AV.d (D.agg [D.sl [], D.int IntKind.i64 (-1 : Int), D.int IntKind.i64 (0 : Int)])] [] (AV.d (D.bool true)) []) ∧ ((D.bool true = D.bool true) ∧ ((FnOK Try.prog (7 : Nat) [] [] (AV.d (D.bool true)) []) ∧ ((AV.d (D.bool true) = AV.d (D.bool true)) ∧ (True))))))))))))))))))))))))))))))) (h := {chain := true, H := [(1, [(3, .val (.bool false)), (8, .val (.bool false))]), (6, [(36, .call [] (.d (.bool q)) []), (43, .call [] (.d (.bool true)) [])])], G := [(8, gId), (16, gId), (7, gYes), (26, gAns (.d (.bool q))), (17, gAns (.tup [.d (.int .i64 v), .d (.bool is)])), (18, gAns (.tup [.d (.int .i64 v), .d (.bool is)])), (19, gAns (.d (.int .i64 e))), (20, gAns (.d (.int .i64 e))), (22, gAns (.d (.sl (inD L)))), (23, gAns (.d (.sl (inD L)))), (24, gAns (.d (.sl (inD S)))), (25, gAns (.d (.sl (inD S)))), (21, gYes), (27, gAns (.d (arD ⟨[], -1, 0⟩))), (28, gAns (.d (arD ⟨[], -1, 0⟩)))]}) (subs := []) (ws := []) (ρ := []) (by kernel_rfl) ?_
  have hn : FnOK Try.prog 15 [.d (arD ⟨[], -1, 0⟩), .d (arD ⟨[], -1, 0⟩)] [] (.d (.bool true)) [] := by
    have h := same15 ⟨[], -1, 0⟩ ⟨[], -1, 0⟩ (by decide)
    rw [decide_eq_true rfl] at h
    exact h
  have hI : ∀ l : List Int, l.length < 1000000 → FnOK Try.prog 21 [.d (.sl (inD l)), .d (.sl (inD l))] [] (.d (.bool true)) [] := fun l h => by
    have h := ints21 l l h
    rw [decide_eq_true rfl] at h
    exact h
  have c0 := own8 st (by omega)
  have c1 := own8 o (by omega)
  have c2 := get17 st (by omega) at_
  have c3 := get18 st (by omega) at_
  have c4 := chk19 st (by omega)
  have c5 := chk20 st (by omega)
  have c6 := live22 st (by omega)
  have c7 := live23 st (by omega)
  have c8 := spare24 st (by omega)
  have c9 := spare25 st (by omega)
  have c10 := same26 st o (by omega)
  have c11 := same15 st o (by omega)
  have c12 := back16 ⟨[], -1, 0⟩ (by decide)
  rw [hv, hi] at c2 c3
  rw [he] at c4 c5
  rw [hL] at c6 c7
  rw [hS] at c8 c9
  rw [hq] at c10 c11
  have i1 := hI L kL
  have i2 := hI S kS
  repeat' (first | with_reducible exact True.intro | with_reducible refine And.intro ?_ ?_ | with_reducible refine condP_dec (fun _ => ?_) (fun _ => ?_) | with_reducible refine condP_eq (fun _ => ?_) (fun _ => ?_) | with_reducible refine condP_ne (fun _ => ?_) (fun _ => ?_) | with_reducible refine condP_not (condP_dec (fun _ => ?_) (fun _ => ?_)) | with_reducible refine condP_not (condP_eq (fun _ => ?_) (fun _ => ?_)) | with_reducible refine condP_not (condP_intro (fun _ => ?_) (fun _ => ?_)) | with_reducible refine condP_intro (fun _ => ?_) (fun _ => ?_))
  all_goals first | exact c0 | exact c1 | exact c2 | exact c3 | exact c4 | exact c5 | exact c6 | exact c7 | exact c8 | exact c9 | exact c10 | exact c11 | exact c12 | exact i1 | exact i2 | exact hn | exact new27 | exact new28 | exact aw7 | rfl | exact dno (by simp; omega) | decide | (refine congrArg D.bool ?_; simp; done) | (exfalso; simp_all; done) | skip

set_option maxRecDepth 100000 in
set_option maxHeartbeats 1000000 in
theorem tel4n (st o : Ar) (at_ : Int) (hl : ¬(st.l.length ≤ 80 ∧ o.l.length ≤ 80)) : FnOK Try.prog 4 ([.d (arD st), .d (arD o), .d (.int .i64 at_)]) ([]) (.d (.bool true)) ([]) := by
  refine fnOK_wp (p := condP (decide ((↑(List.map ceD st.l).length : Int) > (80 : Int))) ((D.bool (decide ((↑(List.map ceD st.l).length : Int) > (80 : Int))) = D.bool true) ∧ ((FnOK Try.prog (7 : Nat) [] [] (AV.d (D.bool true)) []) ∧ ((AV.d (D.bool true) = AV.d (D.bool true)) ∧ (True)))) ((D.bool (decide ((↑(List.map ceD st.l).length : Int) > (80 : Int))) = D.bool false) ∧ (condP (decide ((↑(List.map ceD o.l).length : Int) > (80 : Int))) ((FnOK Try.prog (7 : Nat) [] [] (AV.d (D.bool true)) []) ∧ ((AV.d (D.bool true) = AV.d (D.bool true)) ∧ (True))) ((FnOK Try.prog (8 : Nat) [AV.d (D.agg [D.sl (List.map ceD st.l), D.int IntKind.i64 st.f, D.int IntKind.i64 st.u])] [] (AV.d (D.agg [D.sl (List.map ceD st.l), D.int IntKind.i64 st.f, D.int IntKind.i64 st.u])) []) ∧ ((FnOK Try.prog (17 : Nat) [AV.d (D.agg [D.sl (List.map ceD st.l), D.int IntKind.i64 st.f, D.int IntKind.i64 st.u]), AV.d (D.int IntKind.i64 at_)] [] (AV.tup [AV.d (D.int IntKind.i64 (0 : Int)), AV.d (D.bool true)]) []) ∧ ((FnOK Try.prog (18 : Nat) [AV.d (D.agg [D.sl (List.map ceD st.l), D.int IntKind.i64 st.f, D.int IntKind.i64 st.u]), AV.d (D.int IntKind.i64 at_)] [] (AV.tup [AV.d (D.int IntKind.i64 (0 : Int)), AV.d (D.bool true)]) []) ∧ (False))))))) (h := {G := [(8, gId), (7, gYes), (17, gAns (.tup [.d (.int .i64 0), .d (.bool true)])), (18, gAns (.tup [.d (.int .i64 0), .d (.bool true)]))]}) (subs := []) (ws := []) (ρ := []) (by kernel_rfl) ?_
  simp only [List.length_map]
  repeat' (first | with_reducible exact True.intro | with_reducible refine And.intro ?_ ?_ | with_reducible refine condP_dec (fun _ => ?_) (fun _ => ?_) | with_reducible refine condP_eq (fun _ => ?_) (fun _ => ?_) | with_reducible refine condP_ne (fun _ => ?_) (fun _ => ?_) | with_reducible refine condP_not (condP_dec (fun _ => ?_) (fun _ => ?_)) | with_reducible refine condP_not (condP_eq (fun _ => ?_) (fun _ => ?_)) | with_reducible refine condP_not (condP_intro (fun _ => ?_) (fun _ => ?_)) | with_reducible refine condP_intro (fun _ => ?_) (fun _ => ?_))
  all_goals first | exact aw7 | rfl | exact dyes ‹_› | exact dno ‹_› | (exfalso; simp_all; omega) | (exfalso; omega) | skip

theorem ce_of (x0 : D) (s0 : ∃ ds, CK.hasL [.bool, .int .i64, .int .i64] ds ∧ (if true = true then x0 = .agg ds else ds = [x0])) : ∃ x : Ce, x0 = ceD x ∧ True := by
  obtain ⟨ds, rfl, h0⟩ := ckA s0
  obtain ⟨d1, r1, rfl, g1, h1⟩ := hasL_cons h0
  obtain ⟨v1, rfl⟩ := has_bool g1
  obtain ⟨d2, r2, rfl, g2, h2⟩ := hasL_cons h1
  obtain ⟨v2, rfl, -, -⟩ := has_i64 g2
  obtain ⟨d3, r3, rfl, g3, h3⟩ := hasL_cons h2
  obtain ⟨v3, rfl, -, -⟩ := has_i64 g3
  obtain rfl := hasL_nil h3
  exact ⟨⟨v1, v2, v3⟩, rfl, trivial⟩
theorem ar_of (x0 : D) (s0 : ∃ ds, CK.hasL [.sl true [.bool, .int .i64, .int .i64], .int .i64, .int .i64] ds ∧ (if true = true then x0 = .agg ds else ds = [x0])) : ∃ x : Ar, x0 = arD x := by
  obtain ⟨ds, rfl, h0⟩ := ckA s0
  obtain ⟨d1, r1, rfl, g1, h1⟩ := hasL_cons h0
  obtain ⟨l, rfl, -, -⟩ := has_slOf ceD (fun _ => True) g1 ce_of
  obtain ⟨d2, r2, rfl, g2, h2⟩ := hasL_cons h1
  obtain ⟨v2, rfl, -, -⟩ := has_i64 g2
  obtain ⟨d3, r3, rfl, g3, h3⟩ := hasL_cons h2
  obtain ⟨v3, rfl, -, -⟩ := has_i64 g3
  obtain rfl := hasL_nil h3
  exact ⟨⟨l, v2, v3⟩, rfl⟩
theorem in_of (x0 : D) (s0 : ∃ ds, CK.hasL [.int .i64] ds ∧ (if false = true then x0 = .agg ds else ds = [x0])) : ∃ n : Int, x0 = .int .i64 n ∧ -9223372036854775808 ≤ n ∧ n < 9223372036854775808 := by
  obtain ⟨n, rfl, a, b⟩ := has_i64 (ck1 s0)
  exact ⟨n, rfl, a, b⟩
theorem arenaChanges_ok (x0 : D) (s0 : ∃ ds, CK.hasL [.sl true [.bool, .int .i64, .int .i64], .int .i64, .int .i64] ds ∧ (if true then x0 = .agg ds else ds = [x0])) (x1 : D) (s1 : ∃ ds, CK.hasL [.int .i64] ds ∧ (if false then x1 = .agg ds else ds = [x1])) (x2 : D) (s2 : ∃ ds, CK.hasL [.int .i64] ds ∧ (if false then x2 = .agg ds else ds = [x2])) :
    FnOK Try.prog 3 [.d x0, .d x1, .d x2] [] (.d (.bool true)) [] := by
  obtain ⟨st, rfl⟩ := ar_of x0 s0
  obtain ⟨n, rfl, -, -⟩ := in_of x1 s1
  obtain ⟨v, rfl, -, -⟩ := in_of x2 s2
  by_cases hl : st.l.length ≤ 80
  · exact chg3 st n v hl _ _ _ _ _ _ _ rfl rfl rfl rfl rfl rfl rfl
  · exact chg3n st n v hl
theorem aLv_len (s : Ar) : (aLv s).length ≤ s.l.length := by
  unfold aLv
  split
  · exact lix_len _ _
  · simp
theorem aSp_len (s : Ar) : (aSp s).length ≤ s.l.length + 1 := by
  unfold aSp
  split
  · have := aCh_len s.l (s.l.length + 1) s.f []
    simp only [List.length_nil] at this
    show (aCh s.l (s.l.length + 1) s.f []).1.length ≤ _
    omega
  · simp
theorem arenaTells_ok (x0 : D) (s0 : ∃ ds, CK.hasL [.sl true [.bool, .int .i64, .int .i64], .int .i64, .int .i64] ds ∧ (if true then x0 = .agg ds else ds = [x0])) (x1 : D) (s1 : ∃ ds, CK.hasL [.sl true [.bool, .int .i64, .int .i64], .int .i64, .int .i64] ds ∧ (if true then x1 = .agg ds else ds = [x1])) (x2 : D) (s2 : ∃ ds, CK.hasL [.int .i64] ds ∧ (if false then x2 = .agg ds else ds = [x2])) :
    FnOK Try.prog 4 [.d x0, .d x1, .d x2] [] (.d (.bool true)) [] := by
  obtain ⟨st, rfl⟩ := ar_of x0 s0
  obtain ⟨o, rfl⟩ := ar_of x1 s1
  obtain ⟨n, rfl, -, -⟩ := in_of x2 s2
  by_cases hl : st.l.length ≤ 80 ∧ o.l.length ≤ 80
  · have h1 := aLv_len st
    have h2 := aSp_len st
    exact tel4 st o n hl.1 hl.2 _ _ _ _ _ _ rfl rfl rfl rfl rfl rfl (by omega) (by omega)
  · exact tel4n st o n hl
end Go.Proofs.Ytgdifegembfjoaa
