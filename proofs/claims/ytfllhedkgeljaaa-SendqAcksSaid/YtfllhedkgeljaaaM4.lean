import Derived.Test.YtfllhedkgeljaaaM3
import Derived.Test.YtfllhedkgeljaaaC06S16

/-
laws 11: an acknowledgement taken: the program's.
-/
set_option linter.unusedSimpArgs false
set_option linter.unusedVariables false
namespace Go.Proofs.Ytfllhedkgeljaaa
open Sx Go.RowKit C06

structure Rp where
  a : Int
  s : Int
  l : Bool
  deriving DecidableEq
def rpD (r : Rp) : D := .agg [.int .i64 r.a, .int .i64 r.s, .bool r.l]
def smpl (now : Int) (c : Ck) : Int := if c.r = 1 ∧ now ≥ c.s then IntKind.i64.wrap (now - c.s) else -1
def ackS (all : List Iv) (now : Int) (p : List Ck × Int) (c : Ck) : List Ck × Int := (p.1 ++ lft c all, if someB c all = true then smpl now c else p.2)
def ackF (s : Sq) (all : List Iv) (now : Int) : List Ck × Int := s.fl.foldl (ackS all now) ([], -1)
def acO (s : Sq) (u : Int) (all : List Iv) (now : Int) : Sq := ⟨rFirst all u, s.d.drop (rFirst all u - s.b).toNat, s.n, (ackF s all now).1, rCut all (0, rFirst all u)⟩
def rAck (s : Sq) (u : Int) (l : List Iv) (now : Int) : Sq × Rp :=
  if mayQ s u l = false then (s, ⟨0, -1, false⟩)
  else ((rLose (acO s u (ackAll s u l) now)).1, ⟨IntKind.i64.wrap (rCount (ackAll s u l) - rCount s.cm), (ackF s (ackAll s u l) now).2, (rLose (acO s u (ackAll s u l) now)).2⟩)
def rpB (a s : Int) (q : Bool) : Ob := .box [.d (.int .i64 a), .d (.int .i64 s), .d (.bool q)]
/-! ### All that came -/
def I20 (s : Sq) (u now : Int) (l all : List Iv) (j : Nat) : St := ⟨[(1, .d (.int .i64 u)), (3, .d (.int .i64 now)), (4, .ptr 0 0), (8, .ptr 1 0), (9, .ptr 2 0), (10, .ptr 3 0), (11, .d (.sl (all.map ivD))), (35, .d (.sl (l.map ivD))), (36, .d (.int .i64 l.length)), (37, .d (.int .i64 j))], [(0, sqB s), (1, sqZ), (2, rpB 0 0 false), (3, rpB 0 (-1) false)]⟩
set_option maxRecDepth 100000 in
set_option maxHeartbeats 1000000 in
theorem r20 (s : Sq) (u now : Int) (l all all' : List Iv) (hl : l.length < 1000000) (j : Nat) (x : Iv) (hn : l[j]? = some x) (k1 : FnOK Try.prog 32 [.d (.sl (all.map ivD)), .d (ivD x)] [] (.d (.sl (all'.map ivD))) []) : Runs Try.prog 0 (loopN Try.prog 20 0) (St.as (I20 s u now l all j) 115) (.normal) (St.as (I20 s u now l all' (j+1)) 115) := by
  refine round_wp (p := condP (decide ((↑j : Int) < (↑l.length : Int))) (((0 : Int) ≤ (↑j : Int)) ∧ (((List.map ivD l)[(↑j : Int).toNat]? = some (D.agg [D.int .i64 x.fst, D.int .i64 x.snd])) ∧ ((FnOK Try.prog 32 [AV.d (.sl (List.map ivD all)), AV.d (.agg [D.int .i64 x.fst, D.int .i64 x.snd])] [] (AV.d (.sl (List.map ivD all'))) []) ∧ ((AV.d (.int .i64 u) = AV.d (.int .i64 u)) ∧ ((AV.d (.int .i64 now) = AV.d (.int .i64 now)) ∧ ((AV.ptr 0 0 = AV.ptr 0 0) ∧ ((AV.ptr 1 0 = AV.ptr 1 0) ∧ ((AV.ptr 2 0 = AV.ptr 2 0) ∧ ((AV.ptr 3 0 = AV.ptr 3 0) ∧ ((AV.d (.sl (List.map ivD all')) = AV.d (.sl (List.map ivD all'))) ∧ ((AV.d (.sl (List.map ivD l)) = AV.d (.sl (List.map ivD l))) ∧ ((AV.d (.int .i64 (↑l.length : Int)) = AV.d (.int .i64 (↑l.length : Int))) ∧ ((AV.d (.int .i64 (IntKind.i64.wrap ((↑j : Int) + (1 : Int)))) = AV.d (.int .i64 (↑(j + 1) : Int))) ∧ ((Ob.box [AV.d (.int .i64 s.b), AV.d (.str s.d), AV.d (.int .i64 s.n), AV.d (.sl (List.map ckD s.fl)), AV.d (.sl (List.map ivD s.cm))] = Ob.box [AV.d (.int .i64 s.b), AV.d (.str s.d), AV.d (.int .i64 s.n), AV.d (.sl (List.map ckD s.fl)), AV.d (.sl (List.map ivD s.cm))]) ∧ ((Ob.box [AV.d (.int .i64 (0 : Int)), AV.d (.str []), AV.d (.int .i64 (0 : Int)), AV.raw (Value.slice none 0 0), AV.raw (Value.slice none 0 0)] = Ob.box [AV.d (.int .i64 (0 : Int)), AV.d (.str []), AV.d (.int .i64 (0 : Int)), AV.raw (Value.slice none 0 0), AV.raw (Value.slice none 0 0)]) ∧ ((Ob.box [AV.d (.int .i64 (0 : Int)), AV.d (.int .i64 (0 : Int)), AV.d (.bool false)] = Ob.box [AV.d (.int .i64 (0 : Int)), AV.d (.int .i64 (0 : Int)), AV.d (.bool false)]) ∧ ((Ob.box [AV.d (.int .i64 (0 : Int)), AV.d (.int .i64 (-1 : Int)), AV.d (.bool false)] = Ob.box [AV.d (.int .i64 (0 : Int)), AV.d (.int .i64 (-1 : Int)), AV.d (.bool false)]) ∧ (True)))))))))))))))))) (False)) (h := {els := [(35, .el (ivD x))], H := [(8, [(2, .call [] (.d (.sl (all'.map ivD))) [])])]}) (subs := []) (ws := []) (ρ := []) (by kernel_rfl) ?_
  have hj := get_lt hn
  have hi := inc_i64 (j := j) (by omega)
  try simp only [hi]
  refine condP_t (by rw [decide_eq_true_eq]; omega) ?_
  repeat' (with_reducible first | exact True.intro | apply And.intro | (first | apply zA | apply zB | apply zC | apply zD | apply zE | apply zF | apply zG) <;> intro)
  all_goals first | exact k1 | exact el_map hn rfl | rfl | omega | skip

set_option maxRecDepth 100000 in
set_option maxHeartbeats 1000000 in
theorem q20 (s : Sq) (u now : Int) (l all : List Iv) : Runs Try.prog 0 (loopN Try.prog 20 0) (St.as (I20 s u now l all l.length) 115) (.exit 0) (St.as (I20 s u now l all l.length) 115) := by
  refine round_wp (p := condP (decide ((↑l.length : Int) < (↑l.length : Int))) (False) ((AV.d (.int .i64 u) = AV.d (.int .i64 u)) ∧ ((AV.d (.int .i64 now) = AV.d (.int .i64 now)) ∧ ((AV.ptr 0 0 = AV.ptr 0 0) ∧ ((AV.ptr 1 0 = AV.ptr 1 0) ∧ ((AV.ptr 2 0 = AV.ptr 2 0) ∧ ((AV.ptr 3 0 = AV.ptr 3 0) ∧ ((AV.d (.sl (List.map ivD all)) = AV.d (.sl (List.map ivD all))) ∧ ((AV.d (.sl (List.map ivD l)) = AV.d (.sl (List.map ivD l))) ∧ ((AV.d (.int .i64 (↑l.length : Int)) = AV.d (.int .i64 (↑l.length : Int))) ∧ ((AV.d (.int .i64 (↑l.length : Int)) = AV.d (.int .i64 (↑l.length : Int))) ∧ ((Ob.box [AV.d (.int .i64 s.b), AV.d (.str s.d), AV.d (.int .i64 s.n), AV.d (.sl (List.map ckD s.fl)), AV.d (.sl (List.map ivD s.cm))] = Ob.box [AV.d (.int .i64 s.b), AV.d (.str s.d), AV.d (.int .i64 s.n), AV.d (.sl (List.map ckD s.fl)), AV.d (.sl (List.map ivD s.cm))]) ∧ ((Ob.box [AV.d (.int .i64 (0 : Int)), AV.d (.str []), AV.d (.int .i64 (0 : Int)), AV.raw (Value.slice none 0 0), AV.raw (Value.slice none 0 0)] = Ob.box [AV.d (.int .i64 (0 : Int)), AV.d (.str []), AV.d (.int .i64 (0 : Int)), AV.raw (Value.slice none 0 0), AV.raw (Value.slice none 0 0)]) ∧ ((Ob.box [AV.d (.int .i64 (0 : Int)), AV.d (.int .i64 (0 : Int)), AV.d (.bool false)] = Ob.box [AV.d (.int .i64 (0 : Int)), AV.d (.int .i64 (0 : Int)), AV.d (.bool false)]) ∧ ((Ob.box [AV.d (.int .i64 (0 : Int)), AV.d (.int .i64 (-1 : Int)), AV.d (.bool false)] = Ob.box [AV.d (.int .i64 (0 : Int)), AV.d (.int .i64 (-1 : Int)), AV.d (.bool false)]) ∧ (True)))))))))))))))) (h := {}) (subs := []) (ws := []) (ρ := []) (by kernel_rfl) ?_
  repeat' (with_reducible first | exact True.intro | apply And.intro | (first | apply zA | apply zB | apply zC | apply zD | apply zE | apply zF | apply zG) <;> intro)
  all_goals first | rfl | omega

/-! ### What is left of all chunks -/
def J20 (s : Sq) (u now : Int) (all : List Iv) (a v : Int) (m : List Ck) (j : Nat) : St := ⟨[(1, .d (.int .i64 u)), (3, .d (.int .i64 now)), (4, .ptr 0 0), (8, .ptr 1 0), (9, .ptr 2 0), (10, .ptr 3 0), (11, .d (.sl (all.map ivD))), (14, .ptr 4 0), (56, .d (.sl (s.fl.map ckD))), (57, .d (.int .i64 s.fl.length)), (58, .d (.int .i64 j))], [(0, sqB s), (1, sqZ), (2, rpB 0 0 false), (3, rpB a v false), (4, .box [.d (.int .i64 0), .d (.str []), .d (.int .i64 s.n), .own 5 5, .raw (.slice none 0 0)]), (5, .row 5 (m.map ckD))]⟩
set_option maxRecDepth 100000 in
set_option maxHeartbeats 1000000 in
theorem s20a (s : Sq) (u now : Int) (all : List Iv) (a v : Int) (m t : List Ck) (hf : s.fl.length < 1000000) (hm : m.length + t.length < 1000000000) (j : Nat) (c : Ck) (hn : s.fl[j]? = some c) (q : Bool) (k1 : FnOK Try.prog 47 [.d (ckD c), .d (.sl (all.map ivD))] [] (.tup [.d (.sl (t.map ckD)), .d (.bool q)]) []) (hq : q = false) (h1 : True) : Runs Try.prog 0 (loopN Try.prog 20 1) (St.as (J20 s u now all a v m j) 115) (.normal) (St.as (J20 s u now all a v (m ++ t) (j+1)) 115) := by
  refine round_wp (p := condP (decide ((↑j : Int) < (↑s.fl.length : Int))) (((0 : Int) ≤ (↑j : Int)) ∧ (((List.map ckD s.fl)[(↑j : Int).toNat]? = some (D.agg [D.int .i64 c.f, D.int .i64 c.t, D.int .i64 c.s, D.int .i64 c.r, D.bool c.l])) ∧ ((FnOK Try.prog 47 [AV.d (.agg [D.int .i64 c.f, D.int .i64 c.t, D.int .i64 c.s, D.int .i64 c.r, D.bool c.l]), AV.d (.sl (List.map ivD all))] [] (AV.tup [AV.d (.sl (List.map ckD t)), AV.d (.bool q)]) []) ∧ ((((List.map ckD m).length + (List.map ckD t).length) * 40 ≤ 140737488355328) ∧ ((∀ (e : D), e ∈ List.map ckD t → e.cells.length = 5) ∧ (((D.bool !q) = D.bool true) ∧ ((AV.d (.int .i64 u) = AV.d (.int .i64 u)) ∧ ((AV.d (.int .i64 now) = AV.d (.int .i64 now)) ∧ ((AV.ptr 0 0 = AV.ptr 0 0) ∧ ((AV.ptr 1 0 = AV.ptr 1 0) ∧ ((AV.ptr 2 0 = AV.ptr 2 0) ∧ ((AV.ptr 3 0 = AV.ptr 3 0) ∧ ((AV.d (.sl (List.map ivD all)) = AV.d (.sl (List.map ivD all))) ∧ ((AV.ptr 4 0 = AV.ptr 4 0) ∧ ((AV.d (.sl (List.map ckD s.fl)) = AV.d (.sl (List.map ckD s.fl))) ∧ ((AV.d (.int .i64 (↑s.fl.length : Int)) = AV.d (.int .i64 (↑s.fl.length : Int))) ∧ ((AV.d (.int .i64 (IntKind.i64.wrap ((↑j : Int) + (1 : Int)))) = AV.d (.int .i64 (↑(j + 1) : Int))) ∧ ((Ob.box [AV.d (.int .i64 s.b), AV.d (.str s.d), AV.d (.int .i64 s.n), AV.d (.sl (List.map ckD s.fl)), AV.d (.sl (List.map ivD s.cm))] = Ob.box [AV.d (.int .i64 s.b), AV.d (.str s.d), AV.d (.int .i64 s.n), AV.d (.sl (List.map ckD s.fl)), AV.d (.sl (List.map ivD s.cm))]) ∧ ((Ob.box [AV.d (.int .i64 (0 : Int)), AV.d (.str []), AV.d (.int .i64 (0 : Int)), AV.raw (Value.slice none 0 0), AV.raw (Value.slice none 0 0)] = Ob.box [AV.d (.int .i64 (0 : Int)), AV.d (.str []), AV.d (.int .i64 (0 : Int)), AV.raw (Value.slice none 0 0), AV.raw (Value.slice none 0 0)]) ∧ ((Ob.box [AV.d (.int .i64 (0 : Int)), AV.d (.int .i64 (0 : Int)), AV.d (.bool false)] = Ob.box [AV.d (.int .i64 (0 : Int)), AV.d (.int .i64 (0 : Int)), AV.d (.bool false)]) ∧ ((Ob.box [AV.d (.int .i64 a), AV.d (.int .i64 v), AV.d (.bool false)] = Ob.box [AV.d (.int .i64 a), AV.d (.int .i64 v), AV.d (.bool false)]) ∧ ((Ob.box [AV.d (.int .i64 (0 : Int)), AV.d (.str []), AV.d (.int .i64 s.n), AV.own 1568 5, AV.raw (Value.slice none 0 0)] = Ob.box [AV.d (.int .i64 (0 : Int)), AV.d (.str []), AV.d (.int .i64 s.n), AV.own 1568 5, AV.raw (Value.slice none 0 0)]) ∧ ((Ob.row 5 (List.map ckD m ++ List.map ckD t) = Ob.row 5 (List.map ckD (m ++ t))) ∧ (True)))))))))))))))))))))))) (False)) (h := {els := [(56, .el (ckD c))], H := [(15, [(2, .call [] (.tup [.d (.sl (t.map ckD)), .d (.bool q)]) [])]), (17, [(1, .val (.bool true))])]}) (subs := []) (ws := []) (ρ := []) (by kernel_rfl) ?_
  have hj := get_lt hn
  have hi := inc_i64 (j := j) (by omega)
  have hcm : (m ++ t).map ckD = m.map ckD ++ t.map ckD := List.map_append ..
  try simp only [hi]
  refine condP_t (by rw [decide_eq_true_eq]; omega) ?_
  repeat' (with_reducible first | exact True.intro | apply And.intro | (first | apply zA | apply zB | apply zC | apply zD | apply zE | apply zF | apply zG) <;> intro)
  all_goals first | exact k1 | exact el_map hn rfl | exact congrArg (Ob.row 5) hcm.symm | exact ckD_sz _ | rfl | omega | (simp; omega) | exact dyes (by omega) | exact dno (by omega) | (refine congrArg D.bool ?_; simp [hq]; done) | (refine congrArg D.bool ?_; simp [h1]; done) | skip

set_option maxRecDepth 100000 in
set_option maxHeartbeats 1000000 in
theorem s20b (s : Sq) (u now : Int) (all : List Iv) (a v : Int) (m t : List Ck) (hf : s.fl.length < 1000000) (hm : m.length + t.length < 1000000000) (j : Nat) (c : Ck) (hn : s.fl[j]? = some c) (q : Bool) (k1 : FnOK Try.prog 47 [.d (ckD c), .d (.sl (all.map ivD))] [] (.tup [.d (.sl (t.map ckD)), .d (.bool q)]) []) (hq : q = true) (h1 : c.r = 1) (h2 : now ≥ c.s) : Runs Try.prog 0 (loopN Try.prog 20 1) (St.as (J20 s u now all a v m j) 115) (.normal) (St.as (J20 s u now all a (IntKind.i64.wrap (now - c.s)) (m ++ t) (j+1)) 115) := by
  refine round_wp (p := condP (decide ((↑j : Int) < (↑s.fl.length : Int))) (((0 : Int) ≤ (↑j : Int)) ∧ (((List.map ckD s.fl)[(↑j : Int).toNat]? = some (D.agg [D.int .i64 c.f, D.int .i64 c.t, D.int .i64 c.s, D.int .i64 c.r, D.bool c.l])) ∧ ((FnOK Try.prog 47 [AV.d (.agg [D.int .i64 c.f, D.int .i64 c.t, D.int .i64 c.s, D.int .i64 c.r, D.bool c.l]), AV.d (.sl (List.map ivD all))] [] (AV.tup [AV.d (.sl (List.map ckD t)), AV.d (.bool q)]) []) ∧ ((((List.map ckD m).length + (List.map ckD t).length) * 40 ≤ 140737488355328) ∧ ((∀ (e : D), e ∈ List.map ckD t → e.cells.length = 5) ∧ (((D.bool !q) = D.bool false) ∧ ((D.bool (c.r == (1 : Int)) = D.bool true) ∧ ((D.bool (decide (now ≥ c.s)) = D.bool true) ∧ ((AV.d (.int .i64 u) = AV.d (.int .i64 u)) ∧ ((AV.d (.int .i64 now) = AV.d (.int .i64 now)) ∧ ((AV.ptr 0 0 = AV.ptr 0 0) ∧ ((AV.ptr 1 0 = AV.ptr 1 0) ∧ ((AV.ptr 2 0 = AV.ptr 2 0) ∧ ((AV.ptr 3 0 = AV.ptr 3 0) ∧ ((AV.d (.sl (List.map ivD all)) = AV.d (.sl (List.map ivD all))) ∧ ((AV.ptr 4 0 = AV.ptr 4 0) ∧ ((AV.d (.sl (List.map ckD s.fl)) = AV.d (.sl (List.map ckD s.fl))) ∧ ((AV.d (.int .i64 (↑s.fl.length : Int)) = AV.d (.int .i64 (↑s.fl.length : Int))) ∧ ((AV.d (.int .i64 (IntKind.i64.wrap ((↑j : Int) + (1 : Int)))) = AV.d (.int .i64 (↑(j + 1) : Int))) ∧ ((Ob.box [AV.d (.int .i64 s.b), AV.d (.str s.d), AV.d (.int .i64 s.n), AV.d (.sl (List.map ckD s.fl)), AV.d (.sl (List.map ivD s.cm))] = Ob.box [AV.d (.int .i64 s.b), AV.d (.str s.d), AV.d (.int .i64 s.n), AV.d (.sl (List.map ckD s.fl)), AV.d (.sl (List.map ivD s.cm))]) ∧ ((Ob.box [AV.d (.int .i64 (0 : Int)), AV.d (.str []), AV.d (.int .i64 (0 : Int)), AV.raw (Value.slice none 0 0), AV.raw (Value.slice none 0 0)] = Ob.box [AV.d (.int .i64 (0 : Int)), AV.d (.str []), AV.d (.int .i64 (0 : Int)), AV.raw (Value.slice none 0 0), AV.raw (Value.slice none 0 0)]) ∧ ((Ob.box [AV.d (.int .i64 (0 : Int)), AV.d (.int .i64 (0 : Int)), AV.d (.bool false)] = Ob.box [AV.d (.int .i64 (0 : Int)), AV.d (.int .i64 (0 : Int)), AV.d (.bool false)]) ∧ ((Ob.box [AV.d (.int .i64 a), AV.d (.int .i64 (IntKind.i64.wrap (now - c.s))), AV.d (.bool false)] = Ob.box [AV.d (.int .i64 a), AV.d (.int .i64 (IntKind.i64.wrap (now - c.s))), AV.d (.bool false)]) ∧ ((Ob.box [AV.d (.int .i64 (0 : Int)), AV.d (.str []), AV.d (.int .i64 s.n), AV.own 1568 5, AV.raw (Value.slice none 0 0)] = Ob.box [AV.d (.int .i64 (0 : Int)), AV.d (.str []), AV.d (.int .i64 s.n), AV.own 1568 5, AV.raw (Value.slice none 0 0)]) ∧ ((Ob.row 5 (List.map ckD m ++ List.map ckD t) = Ob.row 5 (List.map ckD (m ++ t))) ∧ (True)))))))))))))))))))))))))) (False)) (h := {els := [(56, .el (ckD c))], H := [(15, [(2, .call [] (.tup [.d (.sl (t.map ckD)), .d (.bool q)]) [])]), (17, [(1, .val (.bool false))]), (19, [(3, .val (.bool true)), (8, .val (.bool true))])]}) (subs := []) (ws := []) (ρ := []) (by kernel_rfl) ?_
  have hj := get_lt hn
  have hi := inc_i64 (j := j) (by omega)
  have hcm : (m ++ t).map ckD = m.map ckD ++ t.map ckD := List.map_append ..
  try simp only [hi]
  refine condP_t (by rw [decide_eq_true_eq]; omega) ?_
  repeat' (with_reducible first | exact True.intro | apply And.intro | (first | apply zA | apply zB | apply zC | apply zD | apply zE | apply zF | apply zG) <;> intro)
  all_goals first | exact k1 | exact el_map hn rfl | exact congrArg (Ob.row 5) hcm.symm | exact ckD_sz _ | rfl | omega | (simp; omega) | exact dyes (by omega) | exact dno (by omega) | (refine congrArg D.bool ?_; simp [hq]; done) | (refine congrArg D.bool ?_; simp [h1]; done) | skip

set_option maxRecDepth 100000 in
set_option maxHeartbeats 1000000 in
theorem s20c (s : Sq) (u now : Int) (all : List Iv) (a v : Int) (m t : List Ck) (hf : s.fl.length < 1000000) (hm : m.length + t.length < 1000000000) (j : Nat) (c : Ck) (hn : s.fl[j]? = some c) (q : Bool) (k1 : FnOK Try.prog 47 [.d (ckD c), .d (.sl (all.map ivD))] [] (.tup [.d (.sl (t.map ckD)), .d (.bool q)]) []) (hq : q = true) (h1 : c.r = 1) (h2 : ¬now ≥ c.s) : Runs Try.prog 0 (loopN Try.prog 20 1) (St.as (J20 s u now all a v m j) 115) (.normal) (St.as (J20 s u now all a (-1) (m ++ t) (j+1)) 115) := by
  refine round_wp (p := condP (decide ((↑j : Int) < (↑s.fl.length : Int))) (((0 : Int) ≤ (↑j : Int)) ∧ (((List.map ckD s.fl)[(↑j : Int).toNat]? = some (D.agg [D.int .i64 c.f, D.int .i64 c.t, D.int .i64 c.s, D.int .i64 c.r, D.bool c.l])) ∧ ((FnOK Try.prog 47 [AV.d (.agg [D.int .i64 c.f, D.int .i64 c.t, D.int .i64 c.s, D.int .i64 c.r, D.bool c.l]), AV.d (.sl (List.map ivD all))] [] (AV.tup [AV.d (.sl (List.map ckD t)), AV.d (.bool q)]) []) ∧ ((((List.map ckD m).length + (List.map ckD t).length) * 40 ≤ 140737488355328) ∧ ((∀ (e : D), e ∈ List.map ckD t → e.cells.length = 5) ∧ (((D.bool !q) = D.bool false) ∧ ((D.bool (c.r == (1 : Int)) = D.bool true) ∧ ((D.bool (decide (now ≥ c.s)) = D.bool false) ∧ ((AV.d (.int .i64 u) = AV.d (.int .i64 u)) ∧ ((AV.d (.int .i64 now) = AV.d (.int .i64 now)) ∧ ((AV.ptr 0 0 = AV.ptr 0 0) ∧ ((AV.ptr 1 0 = AV.ptr 1 0) ∧ ((AV.ptr 2 0 = AV.ptr 2 0) ∧ ((AV.ptr 3 0 = AV.ptr 3 0) ∧ ((AV.d (.sl (List.map ivD all)) = AV.d (.sl (List.map ivD all))) ∧ ((AV.ptr 4 0 = AV.ptr 4 0) ∧ ((AV.d (.sl (List.map ckD s.fl)) = AV.d (.sl (List.map ckD s.fl))) ∧ ((AV.d (.int .i64 (↑s.fl.length : Int)) = AV.d (.int .i64 (↑s.fl.length : Int))) ∧ ((AV.d (.int .i64 (IntKind.i64.wrap ((↑j : Int) + (1 : Int)))) = AV.d (.int .i64 (↑(j + 1) : Int))) ∧ ((Ob.box [AV.d (.int .i64 s.b), AV.d (.str s.d), AV.d (.int .i64 s.n), AV.d (.sl (List.map ckD s.fl)), AV.d (.sl (List.map ivD s.cm))] = Ob.box [AV.d (.int .i64 s.b), AV.d (.str s.d), AV.d (.int .i64 s.n), AV.d (.sl (List.map ckD s.fl)), AV.d (.sl (List.map ivD s.cm))]) ∧ ((Ob.box [AV.d (.int .i64 (0 : Int)), AV.d (.str []), AV.d (.int .i64 (0 : Int)), AV.raw (Value.slice none 0 0), AV.raw (Value.slice none 0 0)] = Ob.box [AV.d (.int .i64 (0 : Int)), AV.d (.str []), AV.d (.int .i64 (0 : Int)), AV.raw (Value.slice none 0 0), AV.raw (Value.slice none 0 0)]) ∧ ((Ob.box [AV.d (.int .i64 (0 : Int)), AV.d (.int .i64 (0 : Int)), AV.d (.bool false)] = Ob.box [AV.d (.int .i64 (0 : Int)), AV.d (.int .i64 (0 : Int)), AV.d (.bool false)]) ∧ ((Ob.box [AV.d (.int .i64 a), AV.d (.int .i64 (-1 : Int)), AV.d (.bool false)] = Ob.box [AV.d (.int .i64 a), AV.d (.int .i64 (-1 : Int)), AV.d (.bool false)]) ∧ ((Ob.box [AV.d (.int .i64 (0 : Int)), AV.d (.str []), AV.d (.int .i64 s.n), AV.own 1568 5, AV.raw (Value.slice none 0 0)] = Ob.box [AV.d (.int .i64 (0 : Int)), AV.d (.str []), AV.d (.int .i64 s.n), AV.own 1568 5, AV.raw (Value.slice none 0 0)]) ∧ ((Ob.row 5 (List.map ckD m ++ List.map ckD t) = Ob.row 5 (List.map ckD (m ++ t))) ∧ (True)))))))))))))))))))))))))) (False)) (h := {els := [(56, .el (ckD c))], H := [(15, [(2, .call [] (.tup [.d (.sl (t.map ckD)), .d (.bool q)]) [])]), (17, [(1, .val (.bool false))]), (19, [(3, .val (.bool true)), (8, .val (.bool false))])]}) (subs := []) (ws := []) (ρ := []) (by kernel_rfl) ?_
  have hj := get_lt hn
  have hi := inc_i64 (j := j) (by omega)
  have hcm : (m ++ t).map ckD = m.map ckD ++ t.map ckD := List.map_append ..
  try simp only [hi]
  refine condP_t (by rw [decide_eq_true_eq]; omega) ?_
  repeat' (with_reducible first | exact True.intro | apply And.intro | (first | apply zA | apply zB | apply zC | apply zD | apply zE | apply zF | apply zG) <;> intro)
  all_goals first | exact k1 | exact el_map hn rfl | exact congrArg (Ob.row 5) hcm.symm | exact ckD_sz _ | rfl | omega | (simp; omega) | exact dyes (by omega) | exact dno (by omega) | (refine congrArg D.bool ?_; simp [hq]; done) | (refine congrArg D.bool ?_; simp [h1]; done) | skip

set_option maxRecDepth 100000 in
set_option maxHeartbeats 1000000 in
theorem s20d (s : Sq) (u now : Int) (all : List Iv) (a v : Int) (m t : List Ck) (hf : s.fl.length < 1000000) (hm : m.length + t.length < 1000000000) (j : Nat) (c : Ck) (hn : s.fl[j]? = some c) (q : Bool) (k1 : FnOK Try.prog 47 [.d (ckD c), .d (.sl (all.map ivD))] [] (.tup [.d (.sl (t.map ckD)), .d (.bool q)]) []) (hq : q = true) (h1 : ¬c.r = 1) : Runs Try.prog 0 (loopN Try.prog 20 1) (St.as (J20 s u now all a v m j) 115) (.normal) (St.as (J20 s u now all a (-1) (m ++ t) (j+1)) 115) := by
  refine round_wp (p := condP (decide ((↑j : Int) < (↑s.fl.length : Int))) (((0 : Int) ≤ (↑j : Int)) ∧ (((List.map ckD s.fl)[(↑j : Int).toNat]? = some (D.agg [D.int .i64 c.f, D.int .i64 c.t, D.int .i64 c.s, D.int .i64 c.r, D.bool c.l])) ∧ ((FnOK Try.prog 47 [AV.d (.agg [D.int .i64 c.f, D.int .i64 c.t, D.int .i64 c.s, D.int .i64 c.r, D.bool c.l]), AV.d (.sl (List.map ivD all))] [] (AV.tup [AV.d (.sl (List.map ckD t)), AV.d (.bool q)]) []) ∧ ((((List.map ckD m).length + (List.map ckD t).length) * 40 ≤ 140737488355328) ∧ ((∀ (e : D), e ∈ List.map ckD t → e.cells.length = 5) ∧ (((D.bool !q) = D.bool false) ∧ ((D.bool (c.r == (1 : Int)) = D.bool false) ∧ ((AV.d (.int .i64 u) = AV.d (.int .i64 u)) ∧ ((AV.d (.int .i64 now) = AV.d (.int .i64 now)) ∧ ((AV.ptr 0 0 = AV.ptr 0 0) ∧ ((AV.ptr 1 0 = AV.ptr 1 0) ∧ ((AV.ptr 2 0 = AV.ptr 2 0) ∧ ((AV.ptr 3 0 = AV.ptr 3 0) ∧ ((AV.d (.sl (List.map ivD all)) = AV.d (.sl (List.map ivD all))) ∧ ((AV.ptr 4 0 = AV.ptr 4 0) ∧ ((AV.d (.sl (List.map ckD s.fl)) = AV.d (.sl (List.map ckD s.fl))) ∧ ((AV.d (.int .i64 (↑s.fl.length : Int)) = AV.d (.int .i64 (↑s.fl.length : Int))) ∧ ((AV.d (.int .i64 (IntKind.i64.wrap ((↑j : Int) + (1 : Int)))) = AV.d (.int .i64 (↑(j + 1) : Int))) ∧ ((Ob.box [AV.d (.int .i64 s.b), AV.d (.str s.d), AV.d (.int .i64 s.n), AV.d (.sl (List.map ckD s.fl)), AV.d (.sl (List.map ivD s.cm))] = Ob.box [AV.d (.int .i64 s.b), AV.d (.str s.d), AV.d (.int .i64 s.n), AV.d (.sl (List.map ckD s.fl)), AV.d (.sl (List.map ivD s.cm))]) ∧ ((Ob.box [AV.d (.int .i64 (0 : Int)), AV.d (.str []), AV.d (.int .i64 (0 : Int)), AV.raw (Value.slice none 0 0), AV.raw (Value.slice none 0 0)] = Ob.box [AV.d (.int .i64 (0 : Int)), AV.d (.str []), AV.d (.int .i64 (0 : Int)), AV.raw (Value.slice none 0 0), AV.raw (Value.slice none 0 0)]) ∧ ((Ob.box [AV.d (.int .i64 (0 : Int)), AV.d (.int .i64 (0 : Int)), AV.d (.bool false)] = Ob.box [AV.d (.int .i64 (0 : Int)), AV.d (.int .i64 (0 : Int)), AV.d (.bool false)]) ∧ ((Ob.box [AV.d (.int .i64 a), AV.d (.int .i64 (-1 : Int)), AV.d (.bool false)] = Ob.box [AV.d (.int .i64 a), AV.d (.int .i64 (-1 : Int)), AV.d (.bool false)]) ∧ ((Ob.box [AV.d (.int .i64 (0 : Int)), AV.d (.str []), AV.d (.int .i64 s.n), AV.own 1568 5, AV.raw (Value.slice none 0 0)] = Ob.box [AV.d (.int .i64 (0 : Int)), AV.d (.str []), AV.d (.int .i64 s.n), AV.own 1568 5, AV.raw (Value.slice none 0 0)]) ∧ ((Ob.row 5 (List.map ckD m ++ List.map ckD t) = Ob.row 5 (List.map ckD (m ++ t))) ∧ (True))))))))))))))))))))))))) (False)) (h := {els := [(56, .el (ckD c))], H := [(15, [(2, .call [] (.tup [.d (.sl (t.map ckD)), .d (.bool q)]) [])]), (17, [(1, .val (.bool false))]), (19, [(3, .val (.bool false))])]}) (subs := []) (ws := []) (ρ := []) (by kernel_rfl) ?_
  have hj := get_lt hn
  have hi := inc_i64 (j := j) (by omega)
  have hcm : (m ++ t).map ckD = m.map ckD ++ t.map ckD := List.map_append ..
  try simp only [hi]
  refine condP_t (by rw [decide_eq_true_eq]; omega) ?_
  repeat' (with_reducible first | exact True.intro | apply And.intro | (first | apply zA | apply zB | apply zC | apply zD | apply zE | apply zF | apply zG) <;> intro)
  all_goals first | exact k1 | exact el_map hn rfl | exact congrArg (Ob.row 5) hcm.symm | exact ckD_sz _ | rfl | omega | (simp; omega) | exact dyes (by omega) | exact dno (by omega) | (refine congrArg D.bool ?_; simp [hq]; done) | (refine congrArg D.bool ?_; simp [h1]; done) | skip

set_option maxRecDepth 100000 in
set_option maxHeartbeats 1000000 in
theorem t20 (s : Sq) (u now : Int) (all : List Iv) (a v : Int) (m : List Ck) : Runs Try.prog 0 (loopN Try.prog 20 1) (St.as (J20 s u now all a v m s.fl.length) 115) (.exit 2) (St.as (J20 s u now all a v m s.fl.length) 115) := by
  refine round_wp (p := condP (decide ((↑s.fl.length : Int) < (↑s.fl.length : Int))) (False) ((AV.d (.int .i64 u) = AV.d (.int .i64 u)) ∧ ((AV.d (.int .i64 now) = AV.d (.int .i64 now)) ∧ ((AV.ptr 0 0 = AV.ptr 0 0) ∧ ((AV.ptr 1 0 = AV.ptr 1 0) ∧ ((AV.ptr 2 0 = AV.ptr 2 0) ∧ ((AV.ptr 3 0 = AV.ptr 3 0) ∧ ((AV.d (.sl (List.map ivD all)) = AV.d (.sl (List.map ivD all))) ∧ ((AV.ptr 4 0 = AV.ptr 4 0) ∧ ((AV.d (.sl (List.map ckD s.fl)) = AV.d (.sl (List.map ckD s.fl))) ∧ ((AV.d (.int .i64 (↑s.fl.length : Int)) = AV.d (.int .i64 (↑s.fl.length : Int))) ∧ ((AV.d (.int .i64 (↑s.fl.length : Int)) = AV.d (.int .i64 (↑s.fl.length : Int))) ∧ ((Ob.box [AV.d (.int .i64 s.b), AV.d (.str s.d), AV.d (.int .i64 s.n), AV.d (.sl (List.map ckD s.fl)), AV.d (.sl (List.map ivD s.cm))] = Ob.box [AV.d (.int .i64 s.b), AV.d (.str s.d), AV.d (.int .i64 s.n), AV.d (.sl (List.map ckD s.fl)), AV.d (.sl (List.map ivD s.cm))]) ∧ ((Ob.box [AV.d (.int .i64 (0 : Int)), AV.d (.str []), AV.d (.int .i64 (0 : Int)), AV.raw (Value.slice none 0 0), AV.raw (Value.slice none 0 0)] = Ob.box [AV.d (.int .i64 (0 : Int)), AV.d (.str []), AV.d (.int .i64 (0 : Int)), AV.raw (Value.slice none 0 0), AV.raw (Value.slice none 0 0)]) ∧ ((Ob.box [AV.d (.int .i64 (0 : Int)), AV.d (.int .i64 (0 : Int)), AV.d (.bool false)] = Ob.box [AV.d (.int .i64 (0 : Int)), AV.d (.int .i64 (0 : Int)), AV.d (.bool false)]) ∧ ((Ob.box [AV.d (.int .i64 a), AV.d (.int .i64 v), AV.d (.bool false)] = Ob.box [AV.d (.int .i64 a), AV.d (.int .i64 v), AV.d (.bool false)]) ∧ ((Ob.box [AV.d (.int .i64 (0 : Int)), AV.d (.str []), AV.d (.int .i64 s.n), AV.own 5 5, AV.raw (Value.slice none 0 0)] = Ob.box [AV.d (.int .i64 (0 : Int)), AV.d (.str []), AV.d (.int .i64 s.n), AV.own 5 5, AV.raw (Value.slice none 0 0)]) ∧ ((Ob.row 5 (List.map ckD m) = Ob.row 5 (List.map ckD m)) ∧ (True))))))))))))))))))) (h := {}) (subs := []) (ws := []) (ρ := []) (by kernel_rfl) ?_
  repeat' (with_reducible first | exact True.intro | apply And.intro | (first | apply zA | apply zB | apply zC | apply zD | apply zE | apply zF | apply zG) <;> intro)
  all_goals first | rfl | omega

theorem step20 (s : Sq) (u now : Int) (all : List Iv) (ha : all.length < 100000) (a : Int) (p : List Ck × Int) (hf : s.fl.length < 1000000) (j : Nat) (c : Ck) (hn : s.fl[j]? = some c) (hm : p.1.length + (lft c all).length < 1000000000) : Runs Try.prog 0 (loopN Try.prog 20 1) ((J20 s u now all a p.2 p.1 j).as 115) .normal ((J20 s u now all a (ackS all now p c).2 (ackS all now p c).1 (j+1)).as 115) := by
  have k1 := without47 c all ha
  unfold ackS
  cases hq : someB c all
  · rw [hq] at k1
    rw [if_neg (by simp)]
    exact s20a s u now all a p.2 p.1 (lft c all) hf hm j c hn _ k1 rfl trivial
  · rw [hq] at k1
    rw [if_pos rfl]
    unfold smpl
    by_cases h1 : c.r = 1
    · by_cases h2 : now ≥ c.s
      · rw [if_pos ⟨h1, h2⟩]
        exact s20b s u now all a p.2 p.1 (lft c all) hf hm j c hn _ k1 rfl h1 h2
      · rw [if_neg (fun g => h2 g.2)]
        exact s20c s u now all a p.2 p.1 (lft c all) hf hm j c hn _ k1 rfl h1 h2
    · rw [if_neg (fun g => h1 g.1)]
      exact s20d s u now all a p.2 p.1 (lft c all) hf hm j c hn _ k1 rfl h1
/-! ### All together -/
set_option maxRecDepth 100000 in
set_option maxHeartbeats 1000000 in
theorem ack20n (s : Sq) (u : Int) (l : List Iv) (now : Int) (k1 : FnOK Try.prog 45 [.d (sqD s), .d (.int .i64 u), .d (.sl (l.map ivD))] [] (.d (.bool false)) []) (k2 : FnOK Try.prog 33 [.d (sqD s)] [] (.d (sqD s)) []) : FnOK Try.prog 20 ([.d (sqD s), .d (.int .i64 u), .d (.sl (l.map ivD)), .d (.int .i64 now)]) ([]) (.tup [.d (sqD s), .d (rpD ⟨0, -1, false⟩)]) ([]) := by
  refine fnOK_wp (p := (FnOK Try.prog 45 [AV.d (.agg [D.int .i64 s.b, D.str s.d, D.int .i64 s.n, D.sl (List.map ckD s.fl), D.sl (List.map ivD s.cm)]), AV.d (.int .i64 u), AV.d (.sl (List.map ivD l))] [] (AV.d (.bool false)) []) ∧ ((FnOK Try.prog 33 [AV.d (.agg [D.int .i64 s.b, D.str s.d, D.int .i64 s.n, D.sl (List.map ckD s.fl), D.sl (List.map ivD s.cm)])] [] (AV.d (.agg [D.int .i64 s.b, D.str s.d, D.int .i64 s.n, D.sl (List.map ckD s.fl), D.sl (List.map ivD s.cm)])) []) ∧ ((AV.tup [AV.d (.agg [D.int .i64 s.b, D.str s.d, D.int .i64 s.n, D.sl (List.map ckD s.fl), D.sl (List.map ivD s.cm)]), AV.d (.agg [D.int .i64 (0 : Int), D.int .i64 (-1 : Int), D.bool false])] = AV.tup [AV.d (.agg [D.int .i64 s.b, D.str s.d, D.int .i64 s.n, D.sl (List.map ckD s.fl), D.sl (List.map ivD s.cm)]), AV.d (.agg [D.int .i64 (0 : Int), D.int .i64 (-1 : Int), D.bool false])]) ∧ (True)))) (h := {H := [(2, [(3, .call [] (.d (.bool false)) [])]), (3, [(1, .call [] (.d (sqD s)) [])])]}) (subs := []) (ws := []) (ρ := []) (by kernel_rfl) ?_
  repeat' (with_reducible first | exact True.intro | apply And.intro | (first | apply zA | apply zB | apply zC | apply zD | apply zE | apply zF | apply zG) <;> intro)
  all_goals first | exact k1 | exact k2 | rfl | skip

set_option maxRecDepth 100000 in
set_option maxHeartbeats 1000000 in
theorem ack20y (s : Sq) (u : Int) (l : List Iv) (now : Int) (all0 all cm : List Iv) (na nc b x v : Int) (m m' : List Ck) (q : Bool) (hd : s.d.length < 1000000) (k1 : FnOK Try.prog 45 [.d (sqD s), .d (.int .i64 u), .d (.sl (l.map ivD))] [] (.d (.bool true)) []) (k2 : FnOK Try.prog 32 [.d (.sl (s.cm.map ivD)), .d (ivD (s.b, u))] [] (.d (.sl (all0.map ivD))) []) (hA : Loops Try.prog 0 (loopN Try.prog 20 0) ((I20 s u now l all0 0).as 115) (.exit 0) ((I20 s u now l all l.length).as 115)) (k3 : FnOK Try.prog 46 [.d (.sl (all.map ivD))] [] (.d (.int .i64 na)) []) (k4 : FnOK Try.prog 46 [.d (.sl (s.cm.map ivD))] [] (.d (.int .i64 nc)) []) (hB : Loops Try.prog 0 (loopN Try.prog 20 1) ((J20 s u now all (IntKind.i64.wrap (na - nc)) (-1) [] 0).as 115) (.exit 2) ((J20 s u now all (IntKind.i64.wrap (na - nc)) v m s.fl.length).as 115)) (k5 : FnOK Try.prog 48 [.d (.sl (all.map ivD)), .d (.int .i64 u)] [] (.d (.int .i64 b)) []) (hx : IntKind.i64.wrap (b - s.b) = x) (hx0 : 0 ≤ x) (hx1 : x ≤ s.d.length) (k6 : FnOK Try.prog 49 [.d (.sl (all.map ivD)), .d (ivD (0, b))] [] (.d (.sl (cm.map ivD))) []) (k7 : FnOK Try.prog 50 [oAV ⟨b, s.d.drop x.toNat, s.n, m, cm⟩] [.row 5 (m.map ckD)] (.d (.bool q)) [.row 5 (m'.map ckD)]) : FnOK Try.prog 20 ([.d (sqD s), .d (.int .i64 u), .d (.sl (l.map ivD)), .d (.int .i64 now)]) ([]) (.tup [.d (sqD ⟨b, s.d.drop x.toNat, s.n, m', cm⟩), .d (rpD ⟨IntKind.i64.wrap (na - nc), v, q⟩)]) ([]) := by
  refine fnOK_wp (p := (FnOK Try.prog 45 [AV.d (.agg [D.int .i64 s.b, D.str s.d, D.int .i64 s.n, D.sl (List.map ckD s.fl), D.sl (List.map ivD s.cm)]), AV.d (.int .i64 u), AV.d (.sl (List.map ivD l))] [] (AV.d (.bool true)) []) ∧ ((FnOK Try.prog 32 [AV.d (.sl (List.map ivD s.cm)), AV.d (.agg [D.int .i64 s.b, D.int .i64 u])] [] (AV.d (.sl (List.map ivD all0))) []) ∧ ((AV.d (.int .i64 u) = AV.d (.int .i64 u)) ∧ ((AV.d (.int .i64 now) = AV.d (.int .i64 now)) ∧ ((AV.ptr 1032 0 = AV.ptr 1032 0) ∧ ((AV.ptr 1064 0 = AV.ptr 1064 0) ∧ ((AV.ptr 1072 0 = AV.ptr 1072 0) ∧ ((AV.ptr 1080 0 = AV.ptr 1080 0) ∧ ((AV.d (.sl (List.map ivD all0)) = AV.d (.sl (List.map ivD all0))) ∧ ((AV.d (.sl (List.map ivD l)) = AV.d (.sl (List.map ivD l))) ∧ ((AV.d (.int .i64 (↑(List.map ivD l).length : Int)) = AV.d (.int .i64 (↑l.length : Int))) ∧ ((AV.d (.int .i64 (0 : Int)) = AV.d (.int .i64 (0 : Int))) ∧ ((Ob.box [AV.d (.int .i64 s.b), AV.d (.str s.d), AV.d (.int .i64 s.n), AV.d (.sl (List.map ckD s.fl)), AV.d (.sl (List.map ivD s.cm))] = Ob.box [AV.d (.int .i64 s.b), AV.d (.str s.d), AV.d (.int .i64 s.n), AV.d (.sl (List.map ckD s.fl)), AV.d (.sl (List.map ivD s.cm))]) ∧ ((Ob.box [AV.d (.int .i64 (0 : Int)), AV.d (.str []), AV.d (.int .i64 (0 : Int)), AV.raw (Value.slice none 0 0), AV.raw (Value.slice none 0 0)] = Ob.box [AV.d (.int .i64 (0 : Int)), AV.d (.str []), AV.d (.int .i64 (0 : Int)), AV.raw (Value.slice none 0 0), AV.raw (Value.slice none 0 0)]) ∧ ((Ob.box [AV.d (.int .i64 (0 : Int)), AV.d (.int .i64 (0 : Int)), AV.d (.bool false)] = Ob.box [AV.d (.int .i64 (0 : Int)), AV.d (.int .i64 (0 : Int)), AV.d (.bool false)]) ∧ ((Ob.box [AV.d (.int .i64 (0 : Int)), AV.d (.int .i64 (-1 : Int)), AV.d (.bool false)] = Ob.box [AV.d (.int .i64 (0 : Int)), AV.d (.int .i64 (-1 : Int)), AV.d (.bool false)]) ∧ ((LoopsS Try.prog 0 (loopN Try.prog 20 0) (I20 s u now l all0 0) (Exit.exit 0) (I20 s u now l all l.length) 115) ∧ ((FnOK Try.prog 46 [AV.d (.sl (List.map ivD all))] [] (AV.d (.int .i64 na)) []) ∧ ((FnOK Try.prog 46 [AV.d (.sl (List.map ivD s.cm))] [] (AV.d (.int .i64 nc)) []) ∧ ((AV.d (.int .i64 u) = AV.d (.int .i64 u)) ∧ ((AV.d (.int .i64 now) = AV.d (.int .i64 now)) ∧ ((AV.ptr 0 0 = AV.ptr 0 0) ∧ ((AV.ptr 1 0 = AV.ptr 1 0) ∧ ((AV.ptr 2 0 = AV.ptr 2 0) ∧ ((AV.ptr 3 0 = AV.ptr 3 0) ∧ ((AV.d (.sl (List.map ivD all)) = AV.d (.sl (List.map ivD all))) ∧ ((AV.ptr 1112 0 = AV.ptr 1112 0) ∧ ((AV.d (.sl (List.map ckD s.fl)) = AV.d (.sl (List.map ckD s.fl))) ∧ ((AV.d (.int .i64 (↑(List.map ckD s.fl).length : Int)) = AV.d (.int .i64 (↑s.fl.length : Int))) ∧ ((AV.d (.int .i64 (0 : Int)) = AV.d (.int .i64 (0 : Int))) ∧ ((Ob.box [AV.d (.int .i64 s.b), AV.d (.str s.d), AV.d (.int .i64 s.n), AV.d (.sl (List.map ckD s.fl)), AV.d (.sl (List.map ivD s.cm))] = Ob.box [AV.d (.int .i64 s.b), AV.d (.str s.d), AV.d (.int .i64 s.n), AV.d (.sl (List.map ckD s.fl)), AV.d (.sl (List.map ivD s.cm))]) ∧ ((Ob.box [AV.d (.int .i64 (0 : Int)), AV.d (.str []), AV.d (.int .i64 (0 : Int)), AV.raw (Value.slice none 0 0), AV.raw (Value.slice none 0 0)] = Ob.box [AV.d (.int .i64 (0 : Int)), AV.d (.str []), AV.d (.int .i64 (0 : Int)), AV.raw (Value.slice none 0 0), AV.raw (Value.slice none 0 0)]) ∧ ((Ob.box [AV.d (.int .i64 (0 : Int)), AV.d (.int .i64 (0 : Int)), AV.d (.bool false)] = Ob.box [AV.d (.int .i64 (0 : Int)), AV.d (.int .i64 (0 : Int)), AV.d (.bool false)]) ∧ ((Ob.box [AV.d (.int .i64 (IntKind.i64.wrap (na - nc))), AV.d (.int .i64 (-1 : Int)), AV.d (.bool false)] = Ob.box [AV.d (.int .i64 (IntKind.i64.wrap (na - nc))), AV.d (.int .i64 (-1 : Int)), AV.d (.bool false)]) ∧ ((Ob.box [AV.d (.int .i64 (0 : Int)), AV.d (.str []), AV.d (.int .i64 s.n), AV.own 500 5, AV.raw (Value.slice none 0 0)] = Ob.box [AV.d (.int .i64 (0 : Int)), AV.d (.str []), AV.d (.int .i64 s.n), AV.own 500 5, AV.raw (Value.slice none 0 0)]) ∧ ((Ob.row 5 [] = Ob.row 5 []) ∧ ((LoopsS Try.prog 0 (loopN Try.prog 20 1) (J20 s u now all (IntKind.i64.wrap (na - nc)) (-1 : Int) [] 0) (Exit.exit 2) (J20 s u now all (IntKind.i64.wrap (na - nc)) v m s.fl.length) 115) ∧ ((FnOK Try.prog 48 [AV.d (.sl (List.map ivD all)), AV.d (.int .i64 u)] [] (AV.d (.int .i64 b)) []) ∧ ((D.int .i64 (IntKind.i64.wrap (b - s.b)) = D.int .i64 x) ∧ (((0 : Int) ≤ x ∧ x ≤ (↑s.d.length : Int) ∧ (↑s.d.length : Int) ≤ (↑s.d.length : Int)) ∧ ((FnOK Try.prog 49 [AV.d (.sl (List.map ivD all)), AV.d (.agg [D.int .i64 (0 : Int), D.int .i64 b])] [] (AV.d (.sl (List.map ivD cm))) []) ∧ ((FnOK Try.prog 50 [AV.agg [AV.d (.int .i64 b), AV.d (.str (List.drop x.toNat (List.take (↑s.d.length : Int).toNat s.d))), AV.d (.int .i64 s.n), AV.own 0 5, AV.d (.sl (List.map ivD cm))]] [Ob.row 5 (List.map ckD m)] (AV.d (.bool q)) [Ob.row 5 (List.map ckD m')]) ∧ ((AV.tup [AV.d (.agg [D.int .i64 b, D.str (List.drop x.toNat (List.take (↑s.d.length : Int).toNat s.d)), D.int .i64 s.n, D.sl (List.map ckD m'), D.sl (List.map ivD cm)]), AV.d (.agg [D.int .i64 (IntKind.i64.wrap (na - nc)), D.int .i64 v, D.bool q])] = AV.tup [AV.d (.agg [D.int .i64 (Sq.mk b (List.drop x.toNat s.d) s.n m' cm).b, D.str (Sq.mk b (List.drop x.toNat s.d) s.n m' cm).d, D.int .i64 (Sq.mk b (List.drop x.toNat s.d) s.n m' cm).n, D.sl (List.map ckD (Sq.mk b (List.drop x.toNat s.d) s.n m' cm).fl), D.sl (List.map ivD (Sq.mk b (List.drop x.toNat s.d) s.n m' cm).cm)]), AV.d (.agg [D.int .i64 (Rp.mk (IntKind.i64.wrap (na - nc)) v q).a, D.int .i64 (Rp.mk (IntKind.i64.wrap (na - nc)) v q).s, D.bool (Rp.mk (IntKind.i64.wrap (na - nc)) v q).l])]) ∧ (True)))))))))))))))))))))))))))))))))))))))))))) (h := {W := [(12, [.nilcell 1112 3 500 5])], H := [(2, [(3, .call [] (.d (.bool true)) [])]), (4, [(6, .call [] (.d (.sl (all0.map ivD))) [])]), (10, [(1, .call [] (.d (.int .i64 na)) []), (4, .call [] (.d (.int .i64 nc)) [])]), (22, [(2, .call [] (.d (.int .i64 b)) [])]), (23, [(6, .val (.int .i64 x))]), (24, [(4, .call [] (.d (.sl (cm.map ivD))) [])]), (25, [(1, .call [5] (.d (.bool q)) [.row 5 (m'.map ckD)])])]}) (subs := [⟨[], [], I20 s u now l all0 0, .exit 0, I20 s u now l all l.length⟩, ⟨[], [], J20 s u now all (IntKind.i64.wrap (na - nc)) (-1) [] 0, .exit 2, J20 s u now all (IntKind.i64.wrap (na - nc)) v m s.fl.length⟩]) (ws := []) (ρ := []) (by kernel_rfl) ?_
  have htk : List.take ((s.d.length : Int)).toNat s.d = s.d := by rw [Int.toNat_natCast, List.take_length]
  try simp only [htk, List.length_map]
  repeat' (with_reducible first | exact True.intro | apply And.intro | (first | apply zA | apply zB | apply zC | apply zD | apply zE | apply zF | apply zG) <;> intro)
  all_goals first | exact k1 | exact k2 | exact k3 | exact k4 | exact k5 | exact k6 | exact k7 | exact hA | exact hB | exact congrArg (D.int .i64) hx | rfl | omega | (rw [List.take_length]; done) | (rw [List.take_length]; rfl) | skip

theorem ackS_len (all : List Iv) (now : Int) : ∀ (l : List Ck) (p : List Ck × Int), (l.foldl (ackS all now) p).1.length ≤ p.1.length + l.length * (all.length + 1)
  | [], p => by show p.1.length ≤ _; omega
  | c :: l, p => by
    have h1 := ackS_len all now l (ackS all now p c)
    have h2 := rGaps_len all (ckI c)
    have h3 : (ackS all now p c).1.length = p.1.length + (rGaps all (ckI c)).length := by unfold ackS lft; rw [List.length_append, List.length_map]
    show (l.foldl (ackS all now) (ackS all now p c)).1.length ≤ _
    rw [List.length_cons, Nat.succ_mul]
    omega
theorem lft_len (c : Ck) (all : List Iv) : (lft c all).length ≤ all.length + 1 := by unfold lft; rw [List.length_map]; exact rGaps_len all (ckI c)
theorem rLose_eq (s : Sq) : (rLose s).1 = { s with fl := (rLose s).1.fl } := by
  unfold rLose
  cases s.cm.getLast? <;> rfl
theorem ack20 (s : Sq) (h : SqOk s) (hf : s.fl.length < 10000) (hc : s.cm.length < 10000) (u : Int) (l : List Iv) (hl : l.length < 10000) (now : Int) :
    FnOK Try.prog 20 [.d (sqD s), .d (.int .i64 u), .d (.sl (l.map ivD)), .d (.int .i64 now)] [] (.tup [.d (sqD (rAck s u l now).1), .d (rpD (rAck s u l now).2)]) [] := by
  have k1 := may45 s h u l (by omega)
  unfold rAck
  cases hq : mayQ s u l
  · rw [hq] at k1
    exact ack20n s u l now k1 (ownD s h)
  · rw [hq] at k1
    rw [if_neg (by simp)]
    have ao := all_ok h.n.2 hq
    have hlen := ackAll_len s u l
    have hA := loops_n (P := Try.prog) (k := 0) (c := loopN Try.prog 20 0) (e := .exit 0) (I := fun j => (I20 s u now l ((l.take j).foldl rAdd (rAdd s.cm (s.b, u))) j).as 115) (by simp) l.length 0 (by omega) (fun j _ hj => by
      have hn := get_of hj
      show Runs _ _ _ _ _ ((I20 s u now l ((l.take (j + 1)).foldl rAdd (rAdd s.cm (s.b, u))) (j + 1)).as _)
      rw [take_snoc hn, List.foldl_append]
      have h1 := adds_len (l.take j) (rAdd s.cm (s.b, u))
      have h2 := rAdd_len1 s.cm (s.b, u)
      rw [List.length_take] at h1
      exact r20 s u now l _ _ (by omega) j _ hn (add11 _ (by omega) _)) (by simp only [List.take_length]; exact q20 s u now l _)
    have hA2 : Loops Try.prog 0 (loopN Try.prog 20 0) ((I20 s u now l (rAdd s.cm (s.b, u)) 0).as 115) (.exit 0) ((I20 s u now l (ackAll s u l) l.length).as 115) := hA
    clear hA
    generalize ackAll s u l = all at *
    obtain ⟨f1, f2, f3, f4⟩ := first_in ao
    have hb0 := ao.b0
    have hbu := ao.bu
    have hnd := ao.nd
    have hnb := ao.nb
    have hB := loops_n (P := Try.prog) (k := 0) (c := loopN Try.prog 20 1) (e := .exit 2) (I := fun j => (J20 s u now all (IntKind.i64.wrap (rCount all - rCount s.cm)) ((s.fl.take j).foldl (ackS all now) ([], -1)).2 ((s.fl.take j).foldl (ackS all now) ([], -1)).1 j).as 115) (by simp) s.fl.length 0 (by omega) (fun j _ hj => by
      have hn := get_of hj
      show Runs _ _ _ _ _ ((J20 s u now all _ ((s.fl.take (j + 1)).foldl (ackS all now) ([], -1)).2 ((s.fl.take (j + 1)).foldl (ackS all now) ([], -1)).1 (j + 1)).as _)
      rw [take_snoc hn, List.foldl_append]
      have h1 := ackS_len all now (s.fl.take j) ([], -1)
      have h2 := lft_len s.fl[j] all
      have h3 : (s.fl.take j).length * (all.length + 1) ≤ 10000 * 20003 := Nat.mul_le_mul (by rw [List.length_take]; omega) (by omega)
      simp only [List.length_nil] at h1
      exact step20 s u now all (by omega) _ _ (by omega) j _ hn (by omega)) (by simp only [List.take_length]; exact t20 s u now all _ _ _)
    have hxl := wrap_in (x := rFirst all u - s.b) (by omega) (by omega)
    have h1 := ackS_len all now s.fl ([], -1)
    have h3 : s.fl.length * (all.length + 1) ≤ 10000 * 20003 := Nat.mul_le_mul (by omega) (by omega)
    simp only [List.length_nil] at h1
    have hcl := rCut_len all (0, rFirst all u)
    have k7 := lose50 (acO s u all now) (by show (ackF s all now).1.length < _; unfold ackF; omega) (by show (rCut all (0, rFirst all u)).length < _; omega)
    rw [rLose_eq]
    exact ack20y s u l now (rAdd s.cm (s.b, u)) all (rCut all (0, rFirst all u)) (rCount all) (rCount s.cm) (rFirst all u) (rFirst all u - s.b) (ackF s all now).2 (ackF s all now).1 _ _ h.d k1 (add11 s.cm (by omega) _) hA2 (count21 all (by omega)) (count21 s.cm (by omega)) hB (first28 all (by omega) u) hxl (by omega) (by omega) (cut13 all (by omega) _) k7
end Go.Proofs.Ytfllhedkgeljaaa

/-
laws 11: an acknowledgement taken: the document's.
-/
set_option linter.unusedSimpArgs false
set_option linter.unusedVariables false
namespace Go.Proofs.Ytfllhedkgeljaaa
open Sx Go.RowKit C06

/-! ### May -/
def mayR (s : Sq) (u : Int) (l : List Iv) : Bool := decide (sChkR s = 0 ∧ s.b ≤ u ∧ u ≤ s.n ∧ iChk l = 0) && (match l.head?, l.getLast? with | some y, some z => decide (y.1 ≥ u ∧ z.2 ≤ s.n) | _, _ => true)
set_option maxRecDepth 100000 in
set_option maxHeartbeats 1000000 in
theorem may51n (s : Sq) (u : Int) (l : List Iv) (e f : Int) (k1 : FnOK Try.prog 23 [.d (sqD s)] [] (.d (.int .i64 e)) []) (k2 : FnOK Try.prog 59 [.d (.sl (l.map ivD))] [] (.d (.int .i64 f)) []) (h : ¬(e = 0 ∧ s.b ≤ u ∧ u ≤ s.n ∧ f = 0)) : FnOK Try.prog 51 ([.d (sqD s), .d (.int .i64 u), .d (.sl (l.map ivD))]) ([]) (.d (.bool false)) ([]) := by
  refine fnOK_wp (p := condP (e != (0 : Int)) ((FnOK Try.prog 23 [AV.d (.agg [D.int .i64 s.b, D.str s.d, D.int .i64 s.n, D.sl (List.map ckD s.fl), D.sl (List.map ivD s.cm)])] [] (AV.d (.int .i64 e)) []) ∧ ((D.bool (e != (0 : Int)) = D.bool true) ∧ ((D.bool true = D.bool true) ∧ ((D.bool true = D.bool true) ∧ ((D.bool true = D.bool true) ∧ ((AV.d (.bool false) = AV.d (.bool false)) ∧ (True))))))) (condP (decide (u < s.b)) ((FnOK Try.prog 23 [AV.d (.agg [D.int .i64 s.b, D.str s.d, D.int .i64 s.n, D.sl (List.map ckD s.fl), D.sl (List.map ivD s.cm)])] [] (AV.d (.int .i64 e)) []) ∧ ((D.bool (e != (0 : Int)) = D.bool false) ∧ ((D.bool (decide (u < s.b)) = D.bool true) ∧ ((D.bool true = D.bool true) ∧ ((D.bool true = D.bool true) ∧ ((AV.d (.bool false) = AV.d (.bool false)) ∧ (True))))))) (condP (decide (u > s.n)) ((FnOK Try.prog 23 [AV.d (.agg [D.int .i64 s.b, D.str s.d, D.int .i64 s.n, D.sl (List.map ckD s.fl), D.sl (List.map ivD s.cm)])] [] (AV.d (.int .i64 e)) []) ∧ ((D.bool (e != (0 : Int)) = D.bool false) ∧ ((D.bool (decide (u < s.b)) = D.bool false) ∧ ((D.bool (decide (u > s.n)) = D.bool true) ∧ ((D.bool true = D.bool true) ∧ ((AV.d (.bool false) = AV.d (.bool false)) ∧ (True))))))) ((FnOK Try.prog 23 [AV.d (.agg [D.int .i64 s.b, D.str s.d, D.int .i64 s.n, D.sl (List.map ckD s.fl), D.sl (List.map ivD s.cm)])] [] (AV.d (.int .i64 e)) []) ∧ ((D.bool (e != (0 : Int)) = D.bool false) ∧ ((D.bool (decide (u < s.b)) = D.bool false) ∧ ((D.bool (decide (u > s.n)) = D.bool false) ∧ ((FnOK Try.prog 59 [AV.d (.sl (List.map ivD l))] [] (AV.d (.int .i64 f)) []) ∧ ((D.bool (f != (0 : Int)) = D.bool true) ∧ ((AV.d (.bool false) = AV.d (.bool false)) ∧ (True))))))))))) (h := {H := [(1, [(1, .call [] (.d (.int .i64 e)) []), (17, .call [] (.d (.int .i64 f)) []), (19, .val (.bool true))])]}) (subs := []) (ws := []) (ρ := []) (by kernel_rfl) ?_
  repeat' (with_reducible first | exact True.intro | apply And.intro | (first | apply zA | apply zB | apply zC | apply zD | apply zE | apply zF | apply zG) <;> intro)
  all_goals first | exact k1 | exact k2 | rfl | exact dyes (by omega) | (refine congrArg D.bool ?_; rw [bne_iff_ne]; omega) | (exfalso; omega) | (refine congrArg D.bool ?_; simp_all; done) | (exfalso; simp_all; omega) | skip

set_option maxRecDepth 100000 in
set_option maxHeartbeats 1000000 in
theorem may51z (s : Sq) (u : Int) (l : List Iv) (e f : Int) (k1 : FnOK Try.prog 23 [.d (sqD s)] [] (.d (.int .i64 e)) []) (k2 : FnOK Try.prog 59 [.d (.sl (l.map ivD))] [] (.d (.int .i64 f)) []) (h : e = 0 ∧ s.b ≤ u ∧ u ≤ s.n ∧ f = 0) (hs : l.length = 0) (hy hz : True) : FnOK Try.prog 51 ([.d (sqD s), .d (.int .i64 u), .d (.sl (l.map ivD))]) ([]) (.d (.bool true)) ([]) := by
  refine fnOK_wp (p := (FnOK Try.prog 23 [AV.d (.agg [D.int .i64 s.b, D.str s.d, D.int .i64 s.n, D.sl (List.map ckD s.fl), D.sl (List.map ivD s.cm)])] [] (AV.d (.int .i64 e)) []) ∧ ((D.bool (e != (0 : Int)) = D.bool false) ∧ ((D.bool (decide (u < s.b)) = D.bool false) ∧ ((D.bool (decide (u > s.n)) = D.bool false) ∧ ((FnOK Try.prog 59 [AV.d (.sl (List.map ivD l))] [] (AV.d (.int .i64 f)) []) ∧ ((D.bool (f != (0 : Int)) = D.bool false) ∧ ((D.bool ((↑(List.map ivD l).length : Int) == (0 : Int)) = D.bool true) ∧ ((AV.d (.bool true) = AV.d (.bool true)) ∧ (True))))))))) (h := {H := [(1, [(1, .call [] (.d (.int .i64 e)) []), (3, .val (.bool false)), (9, .val (.bool false)), (15, .val (.bool false)), (17, .call [] (.d (.int .i64 f)) []), (19, .val (.bool false))]), (3, [(3, .val (.bool true))])]}) (subs := []) (ws := []) (ρ := []) (by kernel_rfl) ?_
  try simp only [List.length_map]
  repeat' (with_reducible first | exact True.intro | apply And.intro | (first | apply zA | apply zB | apply zC | apply zD | apply zE | apply zF | apply zG) <;> intro)
  all_goals first | exact k1 | exact k2 | exact hy | exact hz | rfl | omega | exact dno (by omega) | exact dyes (by omega) | (refine congrArg D.bool ?_; simp [h.1]; done) | (refine congrArg D.bool ?_; simp [h.2.2.2]; done) | (refine congrArg D.bool ?_; simp [hs]; done) | (refine congrArg D.bool ?_; rw [beq_eq_false_iff_ne]; omega) | (refine congrArg (fun z => AV.d (.bool z)) ?_; simp_all; done) | (refine congrArg D.bool ?_; simp_all; done) | (refine congrArg (fun z => AV.d (.bool z)) ?_; symm; simp; omega) | (refine congrArg D.bool ?_; exact decide_eq_decide.2 (by omega)) | skip

set_option maxRecDepth 100000 in
set_option maxHeartbeats 1000000 in
theorem may51y (s : Sq) (u : Int) (l : List Iv) (e f : Int) (k1 : FnOK Try.prog 23 [.d (sqD s)] [] (.d (.int .i64 e)) []) (k2 : FnOK Try.prog 59 [.d (.sl (l.map ivD))] [] (.d (.int .i64 f)) []) (h : e = 0 ∧ s.b ≤ u ∧ u ≤ s.n ∧ f = 0) (hs : 0 < l.length) (y z : Iv) (hw : IntKind.i64.wrap ((l.length : Int) - 1) = (l.length : Int) - 1) (hy : (l.map ivD)[((0 : Int)).toNat]? = some (ivD y)) (hz : (l.map ivD)[((l.length : Int) - 1).toNat]? = some (ivD z)) : FnOK Try.prog 51 ([.d (sqD s), .d (.int .i64 u), .d (.sl (l.map ivD))]) ([]) (.d (.bool (decide (y.1 ≥ u ∧ z.2 ≤ s.n)))) ([]) := by
  refine fnOK_wp (p := (FnOK Try.prog 23 [AV.d (.agg [D.int .i64 s.b, D.str s.d, D.int .i64 s.n, D.sl (List.map ckD s.fl), D.sl (List.map ivD s.cm)])] [] (AV.d (.int .i64 e)) []) ∧ ((D.bool (e != (0 : Int)) = D.bool false) ∧ ((D.bool (decide (u < s.b)) = D.bool false) ∧ ((D.bool (decide (u > s.n)) = D.bool false) ∧ ((FnOK Try.prog 59 [AV.d (.sl (List.map ivD l))] [] (AV.d (.int .i64 f)) []) ∧ ((D.bool (f != (0 : Int)) = D.bool false) ∧ (condP (decide (y.fst ≥ u)) ((D.bool ((↑(List.map ivD l).length : Int) == (0 : Int)) = D.bool false) ∧ (((0 : Int) ≤ (0 : Int)) ∧ (((List.map ivD l)[0]? = some (D.agg [D.int .i64 y.fst, D.int .i64 y.snd])) ∧ ((D.bool (decide (y.fst ≥ u)) = D.bool true) ∧ (((0 : Int) ≤ IntKind.i64.wrap ((↑(List.map ivD l).length : Int) - (1 : Int))) ∧ (((List.map ivD l)[(IntKind.i64.wrap ((↑(List.map ivD l).length : Int) - (1 : Int))).toNat]? = some (D.agg [D.int .i64 z.fst, D.int .i64 z.snd])) ∧ ((AV.d (.bool (decide (z.snd ≤ s.n))) = AV.d (.bool (decide (y.fst ≥ u ∧ z.snd ≤ s.n)))) ∧ (True)))))))) ((D.bool ((↑(List.map ivD l).length : Int) == (0 : Int)) = D.bool false) ∧ (((0 : Int) ≤ (0 : Int)) ∧ (((List.map ivD l)[0]? = some (D.agg [D.int .i64 y.fst, D.int .i64 y.snd])) ∧ ((D.bool (decide (y.fst ≥ u)) = D.bool false) ∧ ((AV.d (.bool false) = AV.d (.bool (decide (y.fst ≥ u ∧ z.snd ≤ s.n)))) ∧ (True))))))))))))) (h := {els := [(31, .el (ivD y)), (38, .el (ivD z))], H := [(1, [(1, .call [] (.d (.int .i64 e)) []), (3, .val (.bool false)), (9, .val (.bool false)), (15, .val (.bool false)), (17, .call [] (.d (.int .i64 f)) []), (19, .val (.bool false))]), (3, [(3, .val (.bool false))])]}) (subs := []) (ws := []) (ρ := []) (by kernel_rfl) ?_
  simp only [List.length_map, hw]
  try simp only [List.length_map]
  repeat' (with_reducible first | exact True.intro | apply And.intro | (first | apply zA | apply zB | apply zC | apply zD | apply zE | apply zF | apply zG) <;> intro)
  all_goals first | exact k1 | exact k2 | exact hy | exact hz | rfl | omega | exact dno (by omega) | exact dyes (by omega) | (refine congrArg D.bool ?_; simp [h.1]; done) | (refine congrArg D.bool ?_; simp [h.2.2.2]; done) | (refine congrArg D.bool ?_; simp [hs]; done) | (refine congrArg D.bool ?_; rw [beq_eq_false_iff_ne]; omega) | (refine congrArg (fun z => AV.d (.bool z)) ?_; simp_all; done) | (refine congrArg D.bool ?_; simp_all; done) | (refine congrArg (fun z => AV.d (.bool z)) ?_; symm; simp; omega) | (refine congrArg D.bool ?_; exact decide_eq_decide.2 (by omega)) | skip

theorem may51 (s : Sq) (h : SqOk s) (u : Int) (l : List Iv) (hl : l.length < 100000) : FnOK Try.prog 51 [.d (sqD s), .d (.int .i64 u), .d (.sl (l.map ivD))] [] (.d (.bool (mayR s u l))) [] := by
  have k1 := chk23 s (by have := h.fl; omega) (by have := h.cm; omega)
  have k2 := chk20 l (by omega)
  unfold mayR
  by_cases g : sChkR s = 0 ∧ s.b ≤ u ∧ u ≤ s.n ∧ iChk l = 0
  · rw [decide_eq_true g, Bool.true_and]
    by_cases hs : l = []
    · subst hs
      exact may51z s u [] _ _ k1 k2 g rfl trivial trivial
    · have hpos := List.length_pos_iff.2 hs
      have hw : IntKind.i64.wrap ((l.length : Int) - 1) = (l.length : Int) - 1 := wrap_in (by omega) (by omega)
      obtain ⟨y, hy⟩ : ∃ y, l.head? = some y := ⟨_, List.head?_eq_some_head hs⟩
      obtain ⟨z, hz⟩ : ∃ z, l.getLast? = some z := ⟨_, List.getLast?_eq_some_getLast hs⟩
      rw [hy, hz]
      refine may51y s u l _ _ k1 k2 g hpos y z hw ?_ ?_
      · rw [List.head?_eq_getElem?] at hy
        show (l.map ivD)[0]? = _
        rw [List.getElem?_map, hy]; rfl
      · rw [List.getLast?_eq_getElem?] at hz
        rw [show ((l.length : Int) - 1).toNat = l.length - 1 by omega, List.getElem?_map, hz]; rfl
  · rw [decide_eq_false g, Bool.false_and]
    exact may51n s u l _ _ k1 k2 g
/-! ### What is left of a chunk -/
def I55 (c : Ck) (g : List Iv) (m : List Ck) (j : Nat) : St := ⟨[(2, .ptr 0 0), (5, .d (.sl (g.map ivD))), (6, .own 1 5), (7, .d (.int .i64 j))], [(0, ckB c), (1, .row 5 (m.map ckD))]⟩
set_option maxRecDepth 100000 in
set_option maxHeartbeats 1000000 in
theorem r55 (c : Ck) (g : List Iv) (hl : g.length < 1000000) (m : List Ck) (hm : m.length < 1000000) (j : Nat) (x : Iv) (hn : g[j]? = some x) : Runs Try.prog 0 (loopN Try.prog 55 0) (St.as (I55 c g m j) 40) (.normal) (St.as (I55 c g (m ++ [part c x]) (j+1)) 40) := by
  refine round_wp (p := condP (decide ((↑j : Int) < (↑(List.map ivD g).length : Int))) (((0 : Int) ≤ (↑j : Int)) ∧ (((List.map ivD g)[(↑j : Int).toNat]? = some (D.agg [D.int .i64 x.fst, D.int .i64 x.snd])) ∧ (((0 : Int) ≤ (↑j : Int)) ∧ (((List.map ivD g)[(↑j : Int).toNat]? = some (D.agg [D.int .i64 x.fst, D.int .i64 x.snd])) ∧ ((((List.map ckD m).length + [D.agg (List.take 5 [D.int .i64 x.fst, D.int .i64 x.snd, D.int .i64 c.s, D.int .i64 c.r, D.bool c.l])].length) * 40 ≤ 140737488355328) ∧ ((∀ (e : D), e ∈ chunk 5 1 [D.int .i64 x.fst, D.int .i64 x.snd, D.int .i64 c.s, D.int .i64 c.r, D.bool c.l] → e.cells.length = 5) ∧ ((AV.ptr 0 0 = AV.ptr 0 0) ∧ ((AV.d (.sl (List.map ivD g)) = AV.d (.sl (List.map ivD g))) ∧ ((AV.own 1304 5 = AV.own 1304 5) ∧ ((AV.d (.int .i64 (IntKind.i64.wrap ((↑j : Int) + (1 : Int)))) = AV.d (.int .i64 (↑(j + 1) : Int))) ∧ ((Ob.box [AV.d (.int .i64 c.f), AV.d (.int .i64 c.t), AV.d (.int .i64 c.s), AV.d (.int .i64 c.r), AV.d (.bool c.l)] = Ob.box [AV.d (.int .i64 c.f), AV.d (.int .i64 c.t), AV.d (.int .i64 c.s), AV.d (.int .i64 c.r), AV.d (.bool c.l)]) ∧ ((Ob.row 5 (List.map ckD m ++ [D.agg (List.take 5 [D.int .i64 x.fst, D.int .i64 x.snd, D.int .i64 c.s, D.int .i64 c.r, D.bool c.l])]) = Ob.row 5 (List.map ckD (m ++ [part c x]))) ∧ (True))))))))))))) (False)) (h := {els := [(23, .el (ivD x)), (28, .el (ivD x))]}) (subs := []) (ws := []) (ρ := []) (by kernel_rfl) ?_
  have hj := get_lt hn
  have hi := inc_i64 (j := j) (by omega)
  have hcm : (m ++ [part c x]).map ckD = m.map ckD ++ [ckD (part c x)] := by simp
  try simp only [hi]
  simp only [List.length_map]
  refine condP_t (by rw [decide_eq_true_eq]; omega) ?_
  repeat' (with_reducible first | exact True.intro | apply And.intro | (first | apply zA | apply zB | apply zC | apply zD | apply zE | apply zF | apply zG) <;> intro)
  all_goals first | exact el_map hn rfl | rfl | omega | exact congrArg (Ob.row 5) hcm.symm | (simp; omega) | (simp [chunk, ckD, D.cells]; done) | skip

set_option maxRecDepth 100000 in
set_option maxHeartbeats 1000000 in
theorem q55 (c : Ck) (g : List Iv) (m : List Ck) : Runs Try.prog 0 (loopN Try.prog 55 0) (St.as (I55 c g m g.length) 40) (.exit 0) (St.as (I55 c g m g.length) 40) := by
  refine round_wp (p := condP (decide ((↑g.length : Int) < (↑(List.map ivD g).length : Int))) (False) ((AV.ptr 0 0 = AV.ptr 0 0) ∧ ((AV.d (.sl (List.map ivD g)) = AV.d (.sl (List.map ivD g))) ∧ ((AV.own 1 5 = AV.own 1 5) ∧ ((AV.d (.int .i64 (↑g.length : Int)) = AV.d (.int .i64 (↑g.length : Int))) ∧ ((Ob.box [AV.d (.int .i64 c.f), AV.d (.int .i64 c.t), AV.d (.int .i64 c.s), AV.d (.int .i64 c.r), AV.d (.bool c.l)] = Ob.box [AV.d (.int .i64 c.f), AV.d (.int .i64 c.t), AV.d (.int .i64 c.s), AV.d (.int .i64 c.r), AV.d (.bool c.l)]) ∧ ((Ob.row 5 (List.map ckD m) = Ob.row 5 (List.map ckD m)) ∧ (True)))))))) (h := {}) (subs := []) (ws := []) (ρ := []) (by kernel_rfl) ?_
  repeat' (with_reducible first | exact True.intro | apply And.intro | (first | apply zA | apply zB | apply zC | apply zD | apply zE | apply zF | apply zG) <;> intro)
  all_goals (try simp only [List.length_map, AV.d.injEq, D.int.injEq, D.bool.injEq, D.str.injEq, D.sl.injEq, true_and, and_true, decide_eq_true_eq, decide_eq_false_iff_not, decide_eq_decide])
  all_goals (try simp only [List.length_map] at *)
  all_goals first | rfl | omega

set_option maxRecDepth 100000 in
set_option maxHeartbeats 1000000 in
theorem left55w (c : Ck) (l g : List Iv) (m : List Ck) (k2 : FnOK Try.prog 81 [.d (.sl (l.map ivD)), .d (ivD (ckI c))] [] (.d (.sl (g.map ivD))) []) (hL : Loops Try.prog 0 (loopN Try.prog 55 0) ((I55 c g [] 0).as 40) (.exit 0) ((I55 c g m g.length).as 40)) : FnOK Try.prog 55 ([.d (ckD c), .d (.sl (l.map ivD))]) ([]) (.d (.sl (m.map ckD))) ([]) := by
  refine fnOK_wp (p := (FnOK Try.prog 81 [AV.d (.sl (List.map ivD l)), AV.d (.agg [D.int .i64 c.f, D.int .i64 c.t])] [] (AV.d (.sl (List.map ivD g))) []) ∧ ((AV.ptr 1016 0 = AV.ptr 1016 0) ∧ ((AV.d (.sl (List.map ivD g)) = AV.d (.sl (List.map ivD g))) ∧ ((AV.own 901 5 = AV.own 901 5) ∧ ((AV.d (.int .i64 (0 : Int)) = AV.d (.int .i64 (0 : Int))) ∧ ((Ob.box [AV.d (.int .i64 c.f), AV.d (.int .i64 c.t), AV.d (.int .i64 c.s), AV.d (.int .i64 c.r), AV.d (.bool c.l)] = Ob.box [AV.d (.int .i64 c.f), AV.d (.int .i64 c.t), AV.d (.int .i64 c.s), AV.d (.int .i64 c.r), AV.d (.bool c.l)]) ∧ ((Ob.row 5 [] = Ob.row 5 []) ∧ ((LoopsS Try.prog 0 (loopN Try.prog 55 0) (I55 c g [] 0) (Exit.exit 0) (I55 c g m g.length) 40) ∧ ((AV.d (.sl (List.map ckD m)) = AV.d (.sl (List.map ckD m))) ∧ (True)))))))))) (h := {H := [(1, [(6, .call [] (.d (.sl (g.map ivD))) [])])]}) (subs := [⟨[], [], I55 c g [] 0, .exit 0, I55 c g m g.length⟩]) (ws := []) (ρ := []) (by kernel_rfl) ?_
  repeat' (with_reducible first | exact True.intro | apply And.intro | (first | apply zA | apply zB | apply zC | apply zD | apply zE | apply zF | apply zG) <;> intro)
  all_goals first | exact k2 | exact hL | rfl | skip

theorem left55 (c : Ck) (l : List Iv) (hl : l.length < 10000) : FnOK Try.prog 55 [.d (ckD c), .d (.sl (l.map ivD))] [] (.d (.sl ((lft c l).map ckD))) [] := by
  have k2 := gaps16 l (by omega) (ckI c)
  rw [← gaps_same] at k2
  have hg := rGaps_len l (ckI c)
  unfold lft
  generalize rGaps l (ckI c) = g at *
  have hL := loops_n (P := Try.prog) (k := 0) (c := loopN Try.prog 55 0) (e := .exit 0) (I := fun j => (I55 c g ((g.take j).map (part c)) j).as 40) (by simp) g.length 0 (by omega) (fun j _ hj => by
    have hn := get_of hj
    show Runs _ _ _ _ _ ((I55 c g ((g.take (j + 1)).map (part c)) (j + 1)).as _)
    rw [take_snoc hn, List.map_append]
    exact r55 c g (by omega) _ (by rw [List.length_map, List.length_take]; omega) j _ hn) (by simp only [List.take_length]; exact q55 c g _)
  exact left55w c l g _ k2 hL
/-! ### What is lost -/
def farR (e : Int) (c : Ck) : Bool := !c.l && decide (IntKind.i64.wrap (c.t + 96) ≤ e)
def loseR (e : Int) (c : Ck) : Ck := if farR e c = true then { c with l := true } else c
def rBehind (s : Sq) : Sq × Bool := match s.cm.getLast? with | none => (s, false) | some z => ({ s with fl := s.fl.map (loseR z.2) }, s.fl.any (farR z.2))
def I58 (s : Sq) (e : Int) (q : Bool) (j : Nat) : St := ⟨[(1, .ptr 0 0), (2, .ptr 1 0), (4, .d (.int .i64 e)), (5, .d (.bool q)), (6, .d (.int .i64 j))], [(0, sqB { s with fl := mapTo (loseR e) s.fl j }), (1, sqZ)]⟩
set_option maxRecDepth 100000 in
set_option maxHeartbeats 1000000 in
theorem r58a (s : Sq) (hl : s.fl.length < 1000000000) (e : Int) (q : Bool) (j : Nat) (c : Ck) (hn : s.fl[j]? = some c) (hm : (mapTo (loseR e) s.fl j)[j]? = some c) (h1 : c.l = true) (k1 : True) (hs : mapTo (loseR e) s.fl j = mapTo (loseR e) s.fl (j+1)) : Runs Try.prog 0 (loopN Try.prog 58 0) (St.as (I58 s e q j) 53) (.normal) (St.as (I58 s e q (j+1)) 53) := by
  refine round_wp (p := condP (decide ((↑j : Int) < (↑(List.map ckD (Sq.mk s.b s.d s.n (mapTo (loseR e) s.fl j) s.cm).fl).length : Int))) (((0 : Int) ≤ (↑j : Int)) ∧ (((List.map ckD (Sq.mk s.b s.d s.n (mapTo (loseR e) s.fl j) s.cm).fl)[(↑j : Int).toNat]? = some (D.agg [D.int .i64 c.f, D.int .i64 c.t, D.int .i64 c.s, D.int .i64 c.r, D.bool c.l])) ∧ (((D.bool !c.l) = D.bool false) ∧ ((AV.ptr 0 0 = AV.ptr 0 0) ∧ ((AV.ptr 1 0 = AV.ptr 1 0) ∧ ((AV.d (.int .i64 e) = AV.d (.int .i64 e)) ∧ ((AV.d (.bool q) = AV.d (.bool q)) ∧ ((AV.d (.int .i64 (IntKind.i64.wrap ((↑j : Int) + (1 : Int)))) = AV.d (.int .i64 (↑(j + 1) : Int))) ∧ ((Ob.box [AV.d (.int .i64 (Sq.mk s.b s.d s.n (mapTo (loseR e) s.fl j) s.cm).b), AV.d (.str (Sq.mk s.b s.d s.n (mapTo (loseR e) s.fl j) s.cm).d), AV.d (.int .i64 (Sq.mk s.b s.d s.n (mapTo (loseR e) s.fl j) s.cm).n), AV.d (.sl (List.map ckD (Sq.mk s.b s.d s.n (mapTo (loseR e) s.fl j) s.cm).fl)), AV.d (.sl (List.map ivD (Sq.mk s.b s.d s.n (mapTo (loseR e) s.fl j) s.cm).cm))] = Ob.box [AV.d (.int .i64 (Sq.mk s.b s.d s.n (mapTo (loseR e) s.fl (j + 1)) s.cm).b), AV.d (.str (Sq.mk s.b s.d s.n (mapTo (loseR e) s.fl (j + 1)) s.cm).d), AV.d (.int .i64 (Sq.mk s.b s.d s.n (mapTo (loseR e) s.fl (j + 1)) s.cm).n), AV.d (.sl (List.map ckD (Sq.mk s.b s.d s.n (mapTo (loseR e) s.fl (j + 1)) s.cm).fl)), AV.d (.sl (List.map ivD (Sq.mk s.b s.d s.n (mapTo (loseR e) s.fl (j + 1)) s.cm).cm))]) ∧ ((Ob.box [AV.d (.int .i64 (0 : Int)), AV.d (.str []), AV.d (.int .i64 (0 : Int)), AV.raw (Value.slice none 0 0), AV.raw (Value.slice none 0 0)] = Ob.box [AV.d (.int .i64 (0 : Int)), AV.d (.str []), AV.d (.int .i64 (0 : Int)), AV.raw (Value.slice none 0 0), AV.raw (Value.slice none 0 0)]) ∧ (True))))))))))) (False)) (h := {els := [(30, .el (ckD c))], H := [(9, [(3, .val (.bool false))])]}) (subs := []) (ws := []) (ρ := []) (by kernel_rfl) ?_
  have hj := get_lt hn
  have hi := inc_i64 (j := j) (by omega)
  have hln := mapTo_len (loseR e) s.fl j
  try simp only [hi]
  simp only [List.length_map, hln]
  refine condP_t (by rw [decide_eq_true_eq]; omega) ?_
  repeat' (with_reducible first | exact True.intro | apply And.intro | (first | apply zA | apply zB | apply zC | apply zD | apply zE | apply zF | apply zG) <;> intro)
  all_goals first | exact k1 | exact el_map hm rfl | exact hs | rfl | omega | (rw [hs]; done) | (rw [hs]; rfl) | (refine congrArg D.bool ?_; simp [h1]; done) | exact dyes (by omega) | exact dno (by omega) | skip

set_option maxRecDepth 100000 in
set_option maxHeartbeats 1000000 in
theorem r58b (s : Sq) (hl : s.fl.length < 1000000000) (e : Int) (q : Bool) (j : Nat) (c : Ck) (hn : s.fl[j]? = some c) (hm : (mapTo (loseR e) s.fl j)[j]? = some c) (h1 : c.l = false) (h2 : ¬IntKind.i64.wrap (c.t + 96) ≤ e) (k1 : True) (hs : mapTo (loseR e) s.fl j = mapTo (loseR e) s.fl (j+1)) : Runs Try.prog 0 (loopN Try.prog 58 0) (St.as (I58 s e q j) 53) (.normal) (St.as (I58 s e q (j+1)) 53) := by
  refine round_wp (p := condP (decide ((↑j : Int) < (↑(List.map ckD (Sq.mk s.b s.d s.n (mapTo (loseR e) s.fl j) s.cm).fl).length : Int))) (((0 : Int) ≤ (↑j : Int)) ∧ (((List.map ckD (Sq.mk s.b s.d s.n (mapTo (loseR e) s.fl j) s.cm).fl)[(↑j : Int).toNat]? = some (D.agg [D.int .i64 c.f, D.int .i64 c.t, D.int .i64 c.s, D.int .i64 c.r, D.bool c.l])) ∧ (((D.bool !c.l) = D.bool true) ∧ ((D.bool (decide (IntKind.i64.wrap (c.t + (96 : Int)) ≤ e)) = D.bool false) ∧ ((AV.ptr 0 0 = AV.ptr 0 0) ∧ ((AV.ptr 1 0 = AV.ptr 1 0) ∧ ((AV.d (.int .i64 e) = AV.d (.int .i64 e)) ∧ ((AV.d (.bool q) = AV.d (.bool q)) ∧ ((AV.d (.int .i64 (IntKind.i64.wrap ((↑j : Int) + (1 : Int)))) = AV.d (.int .i64 (↑(j + 1) : Int))) ∧ ((Ob.box [AV.d (.int .i64 (Sq.mk s.b s.d s.n (mapTo (loseR e) s.fl j) s.cm).b), AV.d (.str (Sq.mk s.b s.d s.n (mapTo (loseR e) s.fl j) s.cm).d), AV.d (.int .i64 (Sq.mk s.b s.d s.n (mapTo (loseR e) s.fl j) s.cm).n), AV.d (.sl (List.map ckD (Sq.mk s.b s.d s.n (mapTo (loseR e) s.fl j) s.cm).fl)), AV.d (.sl (List.map ivD (Sq.mk s.b s.d s.n (mapTo (loseR e) s.fl j) s.cm).cm))] = Ob.box [AV.d (.int .i64 (Sq.mk s.b s.d s.n (mapTo (loseR e) s.fl (j + 1)) s.cm).b), AV.d (.str (Sq.mk s.b s.d s.n (mapTo (loseR e) s.fl (j + 1)) s.cm).d), AV.d (.int .i64 (Sq.mk s.b s.d s.n (mapTo (loseR e) s.fl (j + 1)) s.cm).n), AV.d (.sl (List.map ckD (Sq.mk s.b s.d s.n (mapTo (loseR e) s.fl (j + 1)) s.cm).fl)), AV.d (.sl (List.map ivD (Sq.mk s.b s.d s.n (mapTo (loseR e) s.fl (j + 1)) s.cm).cm))]) ∧ ((Ob.box [AV.d (.int .i64 (0 : Int)), AV.d (.str []), AV.d (.int .i64 (0 : Int)), AV.raw (Value.slice none 0 0), AV.raw (Value.slice none 0 0)] = Ob.box [AV.d (.int .i64 (0 : Int)), AV.d (.str []), AV.d (.int .i64 (0 : Int)), AV.raw (Value.slice none 0 0), AV.raw (Value.slice none 0 0)]) ∧ (True)))))))))))) (False)) (h := {els := [(30, .el (ckD c))], H := [(9, [(3, .val (.bool true)), (9, .val (.bool false))])]}) (subs := []) (ws := []) (ρ := []) (by kernel_rfl) ?_
  have hj := get_lt hn
  have hi := inc_i64 (j := j) (by omega)
  have hln := mapTo_len (loseR e) s.fl j
  try simp only [hi]
  simp only [List.length_map, hln]
  refine condP_t (by rw [decide_eq_true_eq]; omega) ?_
  repeat' (with_reducible first | exact True.intro | apply And.intro | (first | apply zA | apply zB | apply zC | apply zD | apply zE | apply zF | apply zG) <;> intro)
  all_goals first | exact k1 | exact el_map hm rfl | exact hs | rfl | omega | (rw [hs]; done) | (rw [hs]; rfl) | (refine congrArg D.bool ?_; simp [h1]; done) | exact dyes (by omega) | exact dno (by omega) | skip

set_option maxRecDepth 100000 in
set_option maxHeartbeats 1000000 in
theorem r58c (s : Sq) (hl : s.fl.length < 1000000000) (e : Int) (q : Bool) (j : Nat) (c : Ck) (hn : s.fl[j]? = some c) (hm : (mapTo (loseR e) s.fl j)[j]? = some c) (h1 : c.l = false) (h2 : IntKind.i64.wrap (c.t + 96) ≤ e) (hs : True) (k1 : FnOK Try.prog 41 [.d (.sl ((mapTo (loseR e) s.fl j).map ckD)), .d (.int .i64 j), .d (ckD { c with l := true })] [] (.d (.sl ((mapTo (loseR e) s.fl (j+1)).map ckD))) []) : Runs Try.prog 0 (loopN Try.prog 58 0) (St.as (I58 s e q j) 53) (.normal) (St.as (I58 s e true (j+1)) 53) := by
  refine round_wp (p := condP (decide ((↑j : Int) < (↑(List.map ckD (Sq.mk s.b s.d s.n (mapTo (loseR e) s.fl j) s.cm).fl).length : Int))) (((0 : Int) ≤ (↑j : Int)) ∧ (((List.map ckD (Sq.mk s.b s.d s.n (mapTo (loseR e) s.fl j) s.cm).fl)[(↑j : Int).toNat]? = some (D.agg [D.int .i64 c.f, D.int .i64 c.t, D.int .i64 c.s, D.int .i64 c.r, D.bool c.l])) ∧ (((D.bool !c.l) = D.bool true) ∧ ((D.bool (decide (IntKind.i64.wrap (c.t + (96 : Int)) ≤ e)) = D.bool true) ∧ ((FnOK Try.prog 41 [AV.d (.sl (List.map ckD (Sq.mk s.b s.d s.n (mapTo (loseR e) s.fl j) s.cm).fl)), AV.d (.int .i64 (↑j : Int)), AV.d (.agg [D.int .i64 c.f, D.int .i64 c.t, D.int .i64 c.s, D.int .i64 c.r, D.bool true])] [] (AV.d (.sl (List.map ckD (mapTo (loseR e) s.fl (j + 1))))) []) ∧ ((AV.ptr 0 0 = AV.ptr 0 0) ∧ ((AV.ptr 1 0 = AV.ptr 1 0) ∧ ((AV.d (.int .i64 e) = AV.d (.int .i64 e)) ∧ ((AV.d (.bool true) = AV.d (.bool true)) ∧ ((AV.d (.int .i64 (IntKind.i64.wrap ((↑j : Int) + (1 : Int)))) = AV.d (.int .i64 (↑(j + 1) : Int))) ∧ ((Ob.box [AV.d (.int .i64 (Sq.mk s.b s.d s.n (mapTo (loseR e) s.fl j) s.cm).b), AV.d (.str (Sq.mk s.b s.d s.n (mapTo (loseR e) s.fl j) s.cm).d), AV.d (.int .i64 (Sq.mk s.b s.d s.n (mapTo (loseR e) s.fl j) s.cm).n), AV.d (.sl (List.map ckD (mapTo (loseR e) s.fl (j + 1)))), AV.d (.sl (List.map ivD (Sq.mk s.b s.d s.n (mapTo (loseR e) s.fl j) s.cm).cm))] = Ob.box [AV.d (.int .i64 (Sq.mk s.b s.d s.n (mapTo (loseR e) s.fl (j + 1)) s.cm).b), AV.d (.str (Sq.mk s.b s.d s.n (mapTo (loseR e) s.fl (j + 1)) s.cm).d), AV.d (.int .i64 (Sq.mk s.b s.d s.n (mapTo (loseR e) s.fl (j + 1)) s.cm).n), AV.d (.sl (List.map ckD (Sq.mk s.b s.d s.n (mapTo (loseR e) s.fl (j + 1)) s.cm).fl)), AV.d (.sl (List.map ivD (Sq.mk s.b s.d s.n (mapTo (loseR e) s.fl (j + 1)) s.cm).cm))]) ∧ ((Ob.box [AV.d (.int .i64 (0 : Int)), AV.d (.str []), AV.d (.int .i64 (0 : Int)), AV.raw (Value.slice none 0 0), AV.raw (Value.slice none 0 0)] = Ob.box [AV.d (.int .i64 (0 : Int)), AV.d (.str []), AV.d (.int .i64 (0 : Int)), AV.raw (Value.slice none 0 0), AV.raw (Value.slice none 0 0)]) ∧ (True))))))))))))) (False)) (h := {els := [(30, .el (ckD c))], H := [(9, [(3, .val (.bool true)), (9, .val (.bool true))]), (12, [(4, .call [] (.d (.sl ((mapTo (loseR e) s.fl (j+1)).map ckD))) [])])]}) (subs := []) (ws := []) (ρ := []) (by kernel_rfl) ?_
  have hj := get_lt hn
  have hi := inc_i64 (j := j) (by omega)
  have hln := mapTo_len (loseR e) s.fl j
  try simp only [hi]
  simp only [List.length_map, hln]
  refine condP_t (by rw [decide_eq_true_eq]; omega) ?_
  repeat' (with_reducible first | exact True.intro | apply And.intro | (first | apply zA | apply zB | apply zC | apply zD | apply zE | apply zF | apply zG) <;> intro)
  all_goals first | exact k1 | exact el_map hm rfl | exact hs | rfl | omega | (rw [hs]; done) | (rw [hs]; rfl) | (refine congrArg D.bool ?_; simp [h1]; done) | exact dyes (by omega) | exact dno (by omega) | skip

set_option maxRecDepth 100000 in
set_option maxHeartbeats 1000000 in
theorem q58 (s : Sq) (e : Int) (q : Bool) (hln : (mapTo (loseR e) s.fl s.fl.length).length = s.fl.length) : Runs Try.prog 0 (loopN Try.prog 58 0) (St.as (I58 s e q s.fl.length) 53) (.exit 0) (St.as (I58 s e q s.fl.length) 53) := by
  refine round_wp (p := condP (decide ((↑s.fl.length : Int) < (↑(List.map ckD (Sq.mk s.b s.d s.n (mapTo (loseR e) s.fl s.fl.length) s.cm).fl).length : Int))) (False) ((AV.ptr 0 0 = AV.ptr 0 0) ∧ ((AV.ptr 1 0 = AV.ptr 1 0) ∧ ((AV.d (.int .i64 e) = AV.d (.int .i64 e)) ∧ ((AV.d (.bool q) = AV.d (.bool q)) ∧ ((AV.d (.int .i64 (↑s.fl.length : Int)) = AV.d (.int .i64 (↑s.fl.length : Int))) ∧ ((Ob.box [AV.d (.int .i64 (Sq.mk s.b s.d s.n (mapTo (loseR e) s.fl s.fl.length) s.cm).b), AV.d (.str (Sq.mk s.b s.d s.n (mapTo (loseR e) s.fl s.fl.length) s.cm).d), AV.d (.int .i64 (Sq.mk s.b s.d s.n (mapTo (loseR e) s.fl s.fl.length) s.cm).n), AV.d (.sl (List.map ckD (Sq.mk s.b s.d s.n (mapTo (loseR e) s.fl s.fl.length) s.cm).fl)), AV.d (.sl (List.map ivD (Sq.mk s.b s.d s.n (mapTo (loseR e) s.fl s.fl.length) s.cm).cm))] = Ob.box [AV.d (.int .i64 (Sq.mk s.b s.d s.n (mapTo (loseR e) s.fl s.fl.length) s.cm).b), AV.d (.str (Sq.mk s.b s.d s.n (mapTo (loseR e) s.fl s.fl.length) s.cm).d), AV.d (.int .i64 (Sq.mk s.b s.d s.n (mapTo (loseR e) s.fl s.fl.length) s.cm).n), AV.d (.sl (List.map ckD (Sq.mk s.b s.d s.n (mapTo (loseR e) s.fl s.fl.length) s.cm).fl)), AV.d (.sl (List.map ivD (Sq.mk s.b s.d s.n (mapTo (loseR e) s.fl s.fl.length) s.cm).cm))]) ∧ ((Ob.box [AV.d (.int .i64 (0 : Int)), AV.d (.str []), AV.d (.int .i64 (0 : Int)), AV.raw (Value.slice none 0 0), AV.raw (Value.slice none 0 0)] = Ob.box [AV.d (.int .i64 (0 : Int)), AV.d (.str []), AV.d (.int .i64 (0 : Int)), AV.raw (Value.slice none 0 0), AV.raw (Value.slice none 0 0)]) ∧ (True))))))))) (h := {}) (subs := []) (ws := []) (ρ := []) (by kernel_rfl) ?_
  simp only [List.length_map, hln]
  repeat' (with_reducible first | exact True.intro | apply And.intro | (first | apply zA | apply zB | apply zC | apply zD | apply zE | apply zF | apply zG) <;> intro)
  all_goals (try simp only [List.length_map, AV.d.injEq, D.int.injEq, D.bool.injEq, D.str.injEq, D.sl.injEq, true_and, and_true, decide_eq_true_eq, decide_eq_false_iff_not, decide_eq_decide])
  all_goals (try simp only [List.length_map] at *)
  all_goals first | rfl | omega

set_option maxRecDepth 100000 in
set_option maxHeartbeats 1000000 in
theorem beh58n (s : Sq) (h : s.cm.length = 0) : FnOK Try.prog 58 ([.d (sqD s)]) ([]) (.tup [.d (sqD s), .d (.bool false)]) ([]) := by
  refine fnOK_wp (p := (D.bool ((↑(List.map ivD s.cm).length : Int) == (0 : Int)) = D.bool true) ∧ ((AV.tup [AV.d (.agg [D.int .i64 s.b, D.str s.d, D.int .i64 s.n, D.sl (List.map ckD s.fl), D.sl (List.map ivD s.cm)]), AV.d (.bool false)] = AV.tup [AV.d (.agg [D.int .i64 s.b, D.str s.d, D.int .i64 s.n, D.sl (List.map ckD s.fl), D.sl (List.map ivD s.cm)]), AV.d (.bool false)]) ∧ (True))) (h := {H := [(1, [(3, .val (.bool true))])]}) (subs := []) (ws := []) (ρ := []) (by kernel_rfl) ?_
  simp only [List.length_map]
  repeat' (with_reducible first | exact True.intro | apply And.intro | (first | apply zA | apply zB | apply zC | apply zD | apply zE | apply zF | apply zG) <;> intro)
  all_goals first | rfl | (refine congrArg D.bool ?_; simp [h]; done) | skip

set_option maxRecDepth 100000 in
set_option maxHeartbeats 1000000 in
theorem beh58y (s : Sq) (hc : 0 < s.cm.length) (hc2 : s.cm.length < 1000000) (z : Iv) (q : Bool) (hw : IntKind.i64.wrap ((s.cm.length : Int) - 1) = (s.cm.length : Int) - 1) (hz : (s.cm.map ivD)[((s.cm.length : Int) - 1).toNat]? = some (ivD z)) (hL : Loops Try.prog 0 (loopN Try.prog 58 0) ((I58 s z.2 false 0).as 53) (.exit 0) ((I58 s z.2 q s.fl.length).as 53)) : FnOK Try.prog 58 ([.d (sqD s)]) ([]) (.tup [.d (sqD { s with fl := s.fl.map (loseR z.2) }), .d (.bool q)]) ([]) := by
  refine fnOK_wp (p := (D.bool ((↑(List.map ivD s.cm).length : Int) == (0 : Int)) = D.bool false) ∧ (((0 : Int) ≤ IntKind.i64.wrap ((↑(List.map ivD s.cm).length : Int) - (1 : Int))) ∧ (((List.map ivD s.cm)[(IntKind.i64.wrap ((↑(List.map ivD s.cm).length : Int) - (1 : Int))).toNat]? = some (D.agg [D.int .i64 z.fst, D.int .i64 z.snd])) ∧ ((AV.ptr 1008 0 = AV.ptr 1008 0) ∧ ((AV.ptr 1016 0 = AV.ptr 1016 0) ∧ ((AV.d (.int .i64 z.snd) = AV.d (.int .i64 z.snd)) ∧ ((AV.d (.bool false) = AV.d (.bool false)) ∧ ((AV.d (.int .i64 (0 : Int)) = AV.d (.int .i64 (0 : Int))) ∧ ((Ob.box [AV.d (.int .i64 s.b), AV.d (.str s.d), AV.d (.int .i64 s.n), AV.d (.sl (List.map ckD s.fl)), AV.d (.sl (List.map ivD s.cm))] = Ob.box [AV.d (.int .i64 (Sq.mk s.b s.d s.n (mapTo (loseR z.snd) s.fl 0) s.cm).b), AV.d (.str (Sq.mk s.b s.d s.n (mapTo (loseR z.snd) s.fl 0) s.cm).d), AV.d (.int .i64 (Sq.mk s.b s.d s.n (mapTo (loseR z.snd) s.fl 0) s.cm).n), AV.d (.sl (List.map ckD (Sq.mk s.b s.d s.n (mapTo (loseR z.snd) s.fl 0) s.cm).fl)), AV.d (.sl (List.map ivD (Sq.mk s.b s.d s.n (mapTo (loseR z.snd) s.fl 0) s.cm).cm))]) ∧ ((Ob.box [AV.d (.int .i64 (0 : Int)), AV.d (.str []), AV.d (.int .i64 (0 : Int)), AV.raw (Value.slice none 0 0), AV.raw (Value.slice none 0 0)] = Ob.box [AV.d (.int .i64 (0 : Int)), AV.d (.str []), AV.d (.int .i64 (0 : Int)), AV.raw (Value.slice none 0 0), AV.raw (Value.slice none 0 0)]) ∧ ((LoopsS Try.prog 0 (loopN Try.prog 58 0) (I58 s z.snd false 0) (Exit.exit 0) (I58 s z.snd q s.fl.length) 53) ∧ ((AV.tup [AV.d (.agg [D.int .i64 (Sq.mk s.b s.d s.n (mapTo (loseR z.snd) s.fl s.fl.length) s.cm).b, D.str (Sq.mk s.b s.d s.n (mapTo (loseR z.snd) s.fl s.fl.length) s.cm).d, D.int .i64 (Sq.mk s.b s.d s.n (mapTo (loseR z.snd) s.fl s.fl.length) s.cm).n, D.sl (List.map ckD (Sq.mk s.b s.d s.n (mapTo (loseR z.snd) s.fl s.fl.length) s.cm).fl), D.sl (List.map ivD (Sq.mk s.b s.d s.n (mapTo (loseR z.snd) s.fl s.fl.length) s.cm).cm)]), AV.d (.bool q)] = AV.tup [AV.d (.agg [D.int .i64 (Sq.mk s.b s.d s.n (List.map (loseR z.snd) s.fl) s.cm).b, D.str (Sq.mk s.b s.d s.n (List.map (loseR z.snd) s.fl) s.cm).d, D.int .i64 (Sq.mk s.b s.d s.n (List.map (loseR z.snd) s.fl) s.cm).n, D.sl (List.map ckD (Sq.mk s.b s.d s.n (List.map (loseR z.snd) s.fl) s.cm).fl), D.sl (List.map ivD (Sq.mk s.b s.d s.n (List.map (loseR z.snd) s.fl) s.cm).cm)]), AV.d (.bool q)]) ∧ (True))))))))))))) (h := {els := [(14, .el (ivD z))], H := [(1, [(3, .val (.bool false))])]}) (subs := [⟨[], [], I58 s z.2 false 0, .exit 0, I58 s z.2 q s.fl.length⟩]) (ws := []) (ρ := []) (by kernel_rfl) ?_
  have h0 := mapTo_zero (loseR z.2) s.fl
  have h1 := mapTo_end (loseR z.2) s.fl
  simp only [List.length_map, hw]
  repeat' (with_reducible first | exact True.intro | apply And.intro | (first | apply zA | apply zB | apply zC | apply zD | apply zE | apply zF | apply zG) <;> intro)
  all_goals first | exact hL | exact hz | rfl | (rw [h0]; done) | (rw [h1]; done) | (rw [h0]; rfl) | (rw [h1]; rfl) | omega | (refine congrArg D.bool ?_; rw [beq_eq_false_iff_ne]; omega) | skip

theorem behind58 (s : Sq) (hf : s.fl.length < 1000000000) (hf2 : s.fl.length < 1000000) (hc : s.cm.length < 1000000) : FnOK Try.prog 58 [.d (sqD s)] [] (.tup [.d (sqD (rBehind s).1), .d (.bool (rBehind s).2)]) [] := by
  unfold rBehind
  by_cases h : s.cm = []
  · rw [h]
    have := beh58n s (by rw [h]; rfl)
    exact this
  · have hpos := List.length_pos_iff.2 h
    have hw : IntKind.i64.wrap ((s.cm.length : Int) - 1) = (s.cm.length : Int) - 1 := wrap_in (by omega) (by omega)
    obtain ⟨z, hz⟩ : ∃ z, s.cm.getLast? = some z := ⟨_, List.getLast?_eq_some_getLast h⟩
    rw [hz]
    have hz' : (s.cm.map ivD)[((s.cm.length : Int) - 1).toNat]? = some (ivD z) := by
      rw [List.getLast?_eq_getElem?] at hz
      rw [show ((s.cm.length : Int) - 1).toNat = s.cm.length - 1 by omega, List.getElem?_map, hz]; rfl
    have hL := loops_n (P := Try.prog) (k := 0) (c := loopN Try.prog 58 0) (e := .exit 0) (I := fun j => (I58 s z.2 ((s.fl.take j).any (farR z.2)) j).as 53) (by simp) s.fl.length 0 (by omega) (fun j _ hj => by
      have hn := get_of hj
      show Runs _ _ _ _ _ ((I58 s z.2 ((s.fl.take (j + 1)).any (farR z.2)) (j + 1)).as _)
      rw [any_snoc hn]
      have hm := mapTo_get (loseR z.2) hn
      have hs := mapTo_set (loseR z.2) hn
      by_cases g : farR z.2 s.fl[j] = true
      · rw [g, Bool.or_true]
        have hfc : loseR z.2 s.fl[j] = { s.fl[j] with l := true } := by unfold loseR; rw [if_pos g]
        unfold farR at g
        rw [Bool.and_eq_true, Bool.not_eq_true', decide_eq_true_eq] at g
        rw [hfc] at hs
        have k := with41 (mapTo (loseR z.2) s.fl j) (by rw [mapTo_len]; omega) j { s.fl[j] with l := true } _ hm
        rw [hs] at k
        exact r58c s hf _ _ j _ hn hm g.1 g.2 trivial k
      · have g' : farR z.2 s.fl[j] = false := by cases w : farR z.2 s.fl[j]; rfl; exact absurd w g
        have hfc : loseR z.2 s.fl[j] = s.fl[j] := by unfold loseR; rw [if_neg g]
        rw [g', Bool.or_false]
        have hk := mapTo_skip (loseR z.2) hn hfc
        cases hcl : s.fl[j].l
        · refine r58b s hf _ _ j _ hn hm hcl ?_ trivial hk.symm
          intro w
          exact g (by unfold farR; rw [hcl, decide_eq_true w]; rfl)
        · exact r58a s hf _ _ j _ hn hm hcl trivial hk.symm) (by simp only [List.take_length]; exact q58 s _ _ (mapTo_len _ _ _))
    exact beh58y s hpos hc z _ hw hz' hL
end Go.Proofs.Ytfllhedkgeljaaa

/-
laws 11: an acknowledgement taken: the document's, all together.
-/
set_option linter.unusedSimpArgs false
set_option linter.unusedVariables false
namespace Go.Proofs.Ytfllhedkgeljaaa
open Sx Go.RowKit C06

def ackT (all : List Iv) (now : Int) (p : List Ck × Int) (c : Ck) : List Ck × Int := (p.1 ++ lft c all, if metB c all = true then smpl now c else p.2)
def ackG (s : Sq) (all : List Iv) (now : Int) : List Ck × Int := s.fl.foldl (ackT all now) ([], -1)
def acP (s : Sq) (u : Int) (all : List Iv) (now : Int) : Sq := ⟨rFirst all u, s.d.drop (rFirst all u - s.b).toNat, s.n, (ackG s all now).1, rCut all (0, rFirst all u)⟩
def rAckR (s : Sq) (u : Int) (l : List Iv) (now : Int) : Sq × Rp :=
  if mayR s u l = false then (s, ⟨0, -1, false⟩)
  else ((rBehind (acP s u (ackAll s u l) now)).1, ⟨IntKind.i64.wrap (rCount (ackAll s u l) - rCount s.cm), (ackG s (ackAll s u l) now).2, (rBehind (acP s u (ackAll s u l) now)).2⟩)
def I22 (s : Sq) (u now : Int) (l all : List Iv) (j : Nat) : St := ⟨[(1, .d (.int .i64 u)), (2, .d (.sl (l.map ivD))), (3, .d (.int .i64 now)), (4, .ptr 0 0), (8, .ptr 1 0), (9, .ptr 2 0), (10, .d (.sl (all.map ivD))), (11, .d (.int .i64 j))], [(0, sqB s), (1, sqZ), (2, rpB 0 0 false)]⟩
set_option maxRecDepth 100000 in
set_option maxHeartbeats 1000000 in
theorem r22 (s : Sq) (u now : Int) (l all all' : List Iv) (hl : l.length < 1000000) (j : Nat) (x : Iv) (hn : l[j]? = some x) (k1 : FnOK Try.prog 52 [.d (.sl (all.map ivD)), .d (ivD x)] [] (.d (.sl (all'.map ivD))) []) : Runs Try.prog 0 (loopN Try.prog 22 0) (St.as (I22 s u now l all j) 113) (.normal) (St.as (I22 s u now l all' (j+1)) 113) := by
  refine round_wp (p := condP (decide ((↑j : Int) < (↑(List.map ivD l).length : Int))) (((0 : Int) ≤ (↑j : Int)) ∧ (((List.map ivD l)[(↑j : Int).toNat]? = some (D.agg [D.int .i64 x.fst, D.int .i64 x.snd])) ∧ ((FnOK Try.prog 52 [AV.d (.sl (List.map ivD all)), AV.d (.agg [D.int .i64 x.fst, D.int .i64 x.snd])] [] (AV.d (.sl (List.map ivD all'))) []) ∧ ((AV.d (.int .i64 u) = AV.d (.int .i64 u)) ∧ ((AV.d (.sl (List.map ivD l)) = AV.d (.sl (List.map ivD l))) ∧ ((AV.d (.int .i64 now) = AV.d (.int .i64 now)) ∧ ((AV.ptr 0 0 = AV.ptr 0 0) ∧ ((AV.ptr 1 0 = AV.ptr 1 0) ∧ ((AV.ptr 2 0 = AV.ptr 2 0) ∧ ((AV.d (.sl (List.map ivD all')) = AV.d (.sl (List.map ivD all'))) ∧ ((AV.d (.int .i64 (IntKind.i64.wrap ((↑j : Int) + (1 : Int)))) = AV.d (.int .i64 (↑(j + 1) : Int))) ∧ ((Ob.box [AV.d (.int .i64 s.b), AV.d (.str s.d), AV.d (.int .i64 s.n), AV.d (.sl (List.map ckD s.fl)), AV.d (.sl (List.map ivD s.cm))] = Ob.box [AV.d (.int .i64 s.b), AV.d (.str s.d), AV.d (.int .i64 s.n), AV.d (.sl (List.map ckD s.fl)), AV.d (.sl (List.map ivD s.cm))]) ∧ ((Ob.box [AV.d (.int .i64 (0 : Int)), AV.d (.str []), AV.d (.int .i64 (0 : Int)), AV.raw (Value.slice none 0 0), AV.raw (Value.slice none 0 0)] = Ob.box [AV.d (.int .i64 (0 : Int)), AV.d (.str []), AV.d (.int .i64 (0 : Int)), AV.raw (Value.slice none 0 0), AV.raw (Value.slice none 0 0)]) ∧ ((Ob.box [AV.d (.int .i64 (0 : Int)), AV.d (.int .i64 (0 : Int)), AV.d (.bool false)] = Ob.box [AV.d (.int .i64 (0 : Int)), AV.d (.int .i64 (0 : Int)), AV.d (.bool false)]) ∧ (True))))))))))))))) (False)) (h := {els := [(39, .el (ivD x))], H := [(7, [(5, .call [] (.d (.sl (all'.map ivD))) [])])]}) (subs := []) (ws := []) (ρ := []) (by kernel_rfl) ?_
  have hj := get_lt hn
  have hi := inc_i64 (j := j) (by omega)
  try simp only [hi]
  simp only [List.length_map]
  refine condP_t (by rw [decide_eq_true_eq]; omega) ?_
  repeat' (with_reducible first | exact True.intro | apply And.intro | (first | apply zA | apply zB | apply zC | apply zD | apply zE | apply zF | apply zG) <;> intro)
  all_goals first | exact k1 | exact el_map hn rfl | rfl | omega | skip

set_option maxRecDepth 100000 in
set_option maxHeartbeats 1000000 in
theorem q22 (s : Sq) (u now : Int) (l all : List Iv) : Runs Try.prog 0 (loopN Try.prog 22 0) (St.as (I22 s u now l all l.length) 113) (.exit 0) (St.as (I22 s u now l all l.length) 113) := by
  refine round_wp (p := condP (decide ((↑l.length : Int) < (↑(List.map ivD l).length : Int))) (False) ((AV.d (.int .i64 u) = AV.d (.int .i64 u)) ∧ ((AV.d (.sl (List.map ivD l)) = AV.d (.sl (List.map ivD l))) ∧ ((AV.d (.int .i64 now) = AV.d (.int .i64 now)) ∧ ((AV.ptr 0 0 = AV.ptr 0 0) ∧ ((AV.ptr 1 0 = AV.ptr 1 0) ∧ ((AV.ptr 2 0 = AV.ptr 2 0) ∧ ((AV.d (.sl (List.map ivD all)) = AV.d (.sl (List.map ivD all))) ∧ ((AV.d (.int .i64 (↑l.length : Int)) = AV.d (.int .i64 (↑l.length : Int))) ∧ ((Ob.box [AV.d (.int .i64 s.b), AV.d (.str s.d), AV.d (.int .i64 s.n), AV.d (.sl (List.map ckD s.fl)), AV.d (.sl (List.map ivD s.cm))] = Ob.box [AV.d (.int .i64 s.b), AV.d (.str s.d), AV.d (.int .i64 s.n), AV.d (.sl (List.map ckD s.fl)), AV.d (.sl (List.map ivD s.cm))]) ∧ ((Ob.box [AV.d (.int .i64 (0 : Int)), AV.d (.str []), AV.d (.int .i64 (0 : Int)), AV.raw (Value.slice none 0 0), AV.raw (Value.slice none 0 0)] = Ob.box [AV.d (.int .i64 (0 : Int)), AV.d (.str []), AV.d (.int .i64 (0 : Int)), AV.raw (Value.slice none 0 0), AV.raw (Value.slice none 0 0)]) ∧ ((Ob.box [AV.d (.int .i64 (0 : Int)), AV.d (.int .i64 (0 : Int)), AV.d (.bool false)] = Ob.box [AV.d (.int .i64 (0 : Int)), AV.d (.int .i64 (0 : Int)), AV.d (.bool false)]) ∧ (True))))))))))))) (h := {}) (subs := []) (ws := []) (ρ := []) (by kernel_rfl) ?_
  repeat' (with_reducible first | exact True.intro | apply And.intro | (first | apply zA | apply zB | apply zC | apply zD | apply zE | apply zF | apply zG) <;> intro)
  all_goals (try simp only [List.length_map, AV.d.injEq, D.int.injEq, D.bool.injEq, D.str.injEq, D.sl.injEq, true_and, and_true, decide_eq_true_eq, decide_eq_false_iff_not, decide_eq_decide])
  all_goals (try simp only [List.length_map] at *)
  all_goals first | rfl | omega

def J22 (s : Sq) (u now : Int) (all : List Iv) (a v : Int) (m : List Ck) (j : Nat) : St := ⟨[(1, .d (.int .i64 u)), (3, .d (.int .i64 now)), (4, .ptr 0 0), (8, .ptr 1 0), (9, .ptr 2 0), (10, .d (.sl (all.map ivD))), (12, .ptr 3 0), (13, .own 4 5), (14, .d (.int .i64 j))], [(0, sqB s), (1, sqZ), (2, rpB 0 0 false), (3, rpB a v false), (4, .row 5 (m.map ckD))]⟩
set_option maxRecDepth 100000 in
set_option maxHeartbeats 1000000 in
theorem s22a (s : Sq) (u now : Int) (all : List Iv) (a v : Int) (m t : List Ck) (hf : s.fl.length < 1000000) (hm : m.length + t.length < 1000000000) (j : Nat) (c : Ck) (hn : s.fl[j]? = some c) (q : Bool) (k1 : FnOK Try.prog 54 [.d (ckD c), .d (.sl (all.map ivD))] [] (.d (.bool q)) []) (k2 : FnOK Try.prog 55 [.d (ckD c), .d (.sl (all.map ivD))] [] (.d (.sl (t.map ckD))) []) (hq : q = false) (h1 : True) : Runs Try.prog 0 (loopN Try.prog 22 1) (St.as (J22 s u now all a v m j) 113) (.normal) (St.as (J22 s u now all a v (m ++ t) (j+1)) 113) := by
  refine round_wp (p := condP (decide ((↑j : Int) < (↑(List.map ckD s.fl).length : Int))) (((0 : Int) ≤ (↑j : Int)) ∧ (((List.map ckD s.fl)[(↑j : Int).toNat]? = some (D.agg [D.int .i64 c.f, D.int .i64 c.t, D.int .i64 c.s, D.int .i64 c.r, D.bool c.l])) ∧ ((FnOK Try.prog 54 [AV.d (.agg [D.int .i64 c.f, D.int .i64 c.t, D.int .i64 c.s, D.int .i64 c.r, D.bool c.l]), AV.d (.sl (List.map ivD all))] [] (AV.d (.bool false)) []) ∧ ((FnOK Try.prog 55 [AV.d (.agg [D.int .i64 c.f, D.int .i64 c.t, D.int .i64 c.s, D.int .i64 c.r, D.bool c.l]), AV.d (.sl (List.map ivD all))] [] (AV.d (.sl (List.map ckD t))) []) ∧ ((((List.map ckD m).length + (List.map ckD t).length) * 40 ≤ 140737488355328) ∧ ((∀ (e : D), e ∈ List.map ckD t → e.cells.length = 5) ∧ ((AV.d (.int .i64 u) = AV.d (.int .i64 u)) ∧ ((AV.d (.int .i64 now) = AV.d (.int .i64 now)) ∧ ((AV.ptr 0 0 = AV.ptr 0 0) ∧ ((AV.ptr 1 0 = AV.ptr 1 0) ∧ ((AV.ptr 2 0 = AV.ptr 2 0) ∧ ((AV.d (.sl (List.map ivD all)) = AV.d (.sl (List.map ivD all))) ∧ ((AV.ptr 3 0 = AV.ptr 3 0) ∧ ((AV.own 1680 5 = AV.own 1680 5) ∧ ((AV.d (.int .i64 (IntKind.i64.wrap ((↑j : Int) + (1 : Int)))) = AV.d (.int .i64 (↑(j + 1) : Int))) ∧ ((Ob.box [AV.d (.int .i64 s.b), AV.d (.str s.d), AV.d (.int .i64 s.n), AV.d (.sl (List.map ckD s.fl)), AV.d (.sl (List.map ivD s.cm))] = Ob.box [AV.d (.int .i64 s.b), AV.d (.str s.d), AV.d (.int .i64 s.n), AV.d (.sl (List.map ckD s.fl)), AV.d (.sl (List.map ivD s.cm))]) ∧ ((Ob.box [AV.d (.int .i64 (0 : Int)), AV.d (.str []), AV.d (.int .i64 (0 : Int)), AV.raw (Value.slice none 0 0), AV.raw (Value.slice none 0 0)] = Ob.box [AV.d (.int .i64 (0 : Int)), AV.d (.str []), AV.d (.int .i64 (0 : Int)), AV.raw (Value.slice none 0 0), AV.raw (Value.slice none 0 0)]) ∧ ((Ob.box [AV.d (.int .i64 (0 : Int)), AV.d (.int .i64 (0 : Int)), AV.d (.bool false)] = Ob.box [AV.d (.int .i64 (0 : Int)), AV.d (.int .i64 (0 : Int)), AV.d (.bool false)]) ∧ ((Ob.box [AV.d (.int .i64 a), AV.d (.int .i64 v), AV.d (.bool false)] = Ob.box [AV.d (.int .i64 a), AV.d (.int .i64 v), AV.d (.bool false)]) ∧ ((Ob.row 5 (List.map ckD m ++ List.map ckD t) = Ob.row 5 (List.map ckD (m ++ t))) ∧ (True))))))))))))))))))))) (False)) (h := {els := [(59, .el (ckD c))], H := [(14, [(2, .call [] (.d (.bool false)) [])]), (18, [(3, .call [] (.d (.sl (t.map ckD))) [])])]}) (subs := []) (ws := []) (ρ := []) (by kernel_rfl) ?_
  have hj := get_lt hn
  have hi := inc_i64 (j := j) (by omega)
  have hcm : (m ++ t).map ckD = m.map ckD ++ t.map ckD := List.map_append ..
  subst hq
  try simp only [hi]
  simp only [List.length_map]
  refine condP_t (by rw [decide_eq_true_eq]; omega) ?_
  repeat' (with_reducible first | exact True.intro | apply And.intro | (first | apply zA | apply zB | apply zC | apply zD | apply zE | apply zF | apply zG) <;> intro)
  all_goals first | exact k1 | exact k2 | exact el_map hn rfl | exact congrArg (Ob.row 5) hcm.symm | exact ckD_sz _ | rfl | omega | (simp; omega) | exact dyes (by omega) | exact dno (by omega) | (refine congrArg D.bool ?_; simp [h1]; done) | skip

set_option maxRecDepth 100000 in
set_option maxHeartbeats 1000000 in
theorem s22b (s : Sq) (u now : Int) (all : List Iv) (a v : Int) (m t : List Ck) (hf : s.fl.length < 1000000) (hm : m.length + t.length < 1000000000) (j : Nat) (c : Ck) (hn : s.fl[j]? = some c) (q : Bool) (k1 : FnOK Try.prog 54 [.d (ckD c), .d (.sl (all.map ivD))] [] (.d (.bool q)) []) (k2 : FnOK Try.prog 55 [.d (ckD c), .d (.sl (all.map ivD))] [] (.d (.sl (t.map ckD))) []) (hq : q = true) (h1 : c.r = 1) (h2 : now ≥ c.s) : Runs Try.prog 0 (loopN Try.prog 22 1) (St.as (J22 s u now all a v m j) 113) (.normal) (St.as (J22 s u now all a (IntKind.i64.wrap (now - c.s)) (m ++ t) (j+1)) 113) := by
  refine round_wp (p := condP (decide ((↑j : Int) < (↑(List.map ckD s.fl).length : Int))) (((0 : Int) ≤ (↑j : Int)) ∧ (((List.map ckD s.fl)[(↑j : Int).toNat]? = some (D.agg [D.int .i64 c.f, D.int .i64 c.t, D.int .i64 c.s, D.int .i64 c.r, D.bool c.l])) ∧ ((FnOK Try.prog 54 [AV.d (.agg [D.int .i64 c.f, D.int .i64 c.t, D.int .i64 c.s, D.int .i64 c.r, D.bool c.l]), AV.d (.sl (List.map ivD all))] [] (AV.d (.bool true)) []) ∧ ((D.bool (c.r == (1 : Int)) = D.bool true) ∧ ((D.bool (decide (now ≥ c.s)) = D.bool true) ∧ ((FnOK Try.prog 55 [AV.d (.agg [D.int .i64 c.f, D.int .i64 c.t, D.int .i64 c.s, D.int .i64 c.r, D.bool c.l]), AV.d (.sl (List.map ivD all))] [] (AV.d (.sl (List.map ckD t))) []) ∧ ((((List.map ckD m).length + (List.map ckD t).length) * 40 ≤ 140737488355328) ∧ ((∀ (e : D), e ∈ List.map ckD t → e.cells.length = 5) ∧ ((AV.d (.int .i64 u) = AV.d (.int .i64 u)) ∧ ((AV.d (.int .i64 now) = AV.d (.int .i64 now)) ∧ ((AV.ptr 0 0 = AV.ptr 0 0) ∧ ((AV.ptr 1 0 = AV.ptr 1 0) ∧ ((AV.ptr 2 0 = AV.ptr 2 0) ∧ ((AV.d (.sl (List.map ivD all)) = AV.d (.sl (List.map ivD all))) ∧ ((AV.ptr 3 0 = AV.ptr 3 0) ∧ ((AV.own 1680 5 = AV.own 1680 5) ∧ ((AV.d (.int .i64 (IntKind.i64.wrap ((↑j : Int) + (1 : Int)))) = AV.d (.int .i64 (↑(j + 1) : Int))) ∧ ((Ob.box [AV.d (.int .i64 s.b), AV.d (.str s.d), AV.d (.int .i64 s.n), AV.d (.sl (List.map ckD s.fl)), AV.d (.sl (List.map ivD s.cm))] = Ob.box [AV.d (.int .i64 s.b), AV.d (.str s.d), AV.d (.int .i64 s.n), AV.d (.sl (List.map ckD s.fl)), AV.d (.sl (List.map ivD s.cm))]) ∧ ((Ob.box [AV.d (.int .i64 (0 : Int)), AV.d (.str []), AV.d (.int .i64 (0 : Int)), AV.raw (Value.slice none 0 0), AV.raw (Value.slice none 0 0)] = Ob.box [AV.d (.int .i64 (0 : Int)), AV.d (.str []), AV.d (.int .i64 (0 : Int)), AV.raw (Value.slice none 0 0), AV.raw (Value.slice none 0 0)]) ∧ ((Ob.box [AV.d (.int .i64 (0 : Int)), AV.d (.int .i64 (0 : Int)), AV.d (.bool false)] = Ob.box [AV.d (.int .i64 (0 : Int)), AV.d (.int .i64 (0 : Int)), AV.d (.bool false)]) ∧ ((Ob.box [AV.d (.int .i64 a), AV.d (.int .i64 (IntKind.i64.wrap (now - c.s))), AV.d (.bool false)] = Ob.box [AV.d (.int .i64 a), AV.d (.int .i64 (IntKind.i64.wrap (now - c.s))), AV.d (.bool false)]) ∧ ((Ob.row 5 (List.map ckD m ++ List.map ckD t) = Ob.row 5 (List.map ckD (m ++ t))) ∧ (True))))))))))))))))))))))) (False)) (h := {els := [(59, .el (ckD c))], H := [(14, [(2, .call [] (.d (.bool true)) [])]), (18, [(3, .call [] (.d (.sl (t.map ckD))) [])]), (16, [(3, .val (.bool true)), (8, .val (.bool true))])]}) (subs := []) (ws := []) (ρ := []) (by kernel_rfl) ?_
  have hj := get_lt hn
  have hi := inc_i64 (j := j) (by omega)
  have hcm : (m ++ t).map ckD = m.map ckD ++ t.map ckD := List.map_append ..
  subst hq
  try simp only [hi]
  simp only [List.length_map]
  refine condP_t (by rw [decide_eq_true_eq]; omega) ?_
  repeat' (with_reducible first | exact True.intro | apply And.intro | (first | apply zA | apply zB | apply zC | apply zD | apply zE | apply zF | apply zG) <;> intro)
  all_goals first | exact k1 | exact k2 | exact el_map hn rfl | exact congrArg (Ob.row 5) hcm.symm | exact ckD_sz _ | rfl | omega | (simp; omega) | exact dyes (by omega) | exact dno (by omega) | (refine congrArg D.bool ?_; simp [h1]; done) | skip

set_option maxRecDepth 100000 in
set_option maxHeartbeats 1000000 in
theorem s22c (s : Sq) (u now : Int) (all : List Iv) (a v : Int) (m t : List Ck) (hf : s.fl.length < 1000000) (hm : m.length + t.length < 1000000000) (j : Nat) (c : Ck) (hn : s.fl[j]? = some c) (q : Bool) (k1 : FnOK Try.prog 54 [.d (ckD c), .d (.sl (all.map ivD))] [] (.d (.bool q)) []) (k2 : FnOK Try.prog 55 [.d (ckD c), .d (.sl (all.map ivD))] [] (.d (.sl (t.map ckD))) []) (hq : q = true) (h1 : c.r = 1) (h2 : ¬now ≥ c.s) : Runs Try.prog 0 (loopN Try.prog 22 1) (St.as (J22 s u now all a v m j) 113) (.normal) (St.as (J22 s u now all a (-1) (m ++ t) (j+1)) 113) := by
  refine round_wp (p := condP (decide ((↑j : Int) < (↑(List.map ckD s.fl).length : Int))) (((0 : Int) ≤ (↑j : Int)) ∧ (((List.map ckD s.fl)[(↑j : Int).toNat]? = some (D.agg [D.int .i64 c.f, D.int .i64 c.t, D.int .i64 c.s, D.int .i64 c.r, D.bool c.l])) ∧ ((FnOK Try.prog 54 [AV.d (.agg [D.int .i64 c.f, D.int .i64 c.t, D.int .i64 c.s, D.int .i64 c.r, D.bool c.l]), AV.d (.sl (List.map ivD all))] [] (AV.d (.bool true)) []) ∧ ((D.bool (c.r == (1 : Int)) = D.bool true) ∧ ((D.bool (decide (now ≥ c.s)) = D.bool false) ∧ ((FnOK Try.prog 55 [AV.d (.agg [D.int .i64 c.f, D.int .i64 c.t, D.int .i64 c.s, D.int .i64 c.r, D.bool c.l]), AV.d (.sl (List.map ivD all))] [] (AV.d (.sl (List.map ckD t))) []) ∧ ((((List.map ckD m).length + (List.map ckD t).length) * 40 ≤ 140737488355328) ∧ ((∀ (e : D), e ∈ List.map ckD t → e.cells.length = 5) ∧ ((AV.d (.int .i64 u) = AV.d (.int .i64 u)) ∧ ((AV.d (.int .i64 now) = AV.d (.int .i64 now)) ∧ ((AV.ptr 0 0 = AV.ptr 0 0) ∧ ((AV.ptr 1 0 = AV.ptr 1 0) ∧ ((AV.ptr 2 0 = AV.ptr 2 0) ∧ ((AV.d (.sl (List.map ivD all)) = AV.d (.sl (List.map ivD all))) ∧ ((AV.ptr 3 0 = AV.ptr 3 0) ∧ ((AV.own 1680 5 = AV.own 1680 5) ∧ ((AV.d (.int .i64 (IntKind.i64.wrap ((↑j : Int) + (1 : Int)))) = AV.d (.int .i64 (↑(j + 1) : Int))) ∧ ((Ob.box [AV.d (.int .i64 s.b), AV.d (.str s.d), AV.d (.int .i64 s.n), AV.d (.sl (List.map ckD s.fl)), AV.d (.sl (List.map ivD s.cm))] = Ob.box [AV.d (.int .i64 s.b), AV.d (.str s.d), AV.d (.int .i64 s.n), AV.d (.sl (List.map ckD s.fl)), AV.d (.sl (List.map ivD s.cm))]) ∧ ((Ob.box [AV.d (.int .i64 (0 : Int)), AV.d (.str []), AV.d (.int .i64 (0 : Int)), AV.raw (Value.slice none 0 0), AV.raw (Value.slice none 0 0)] = Ob.box [AV.d (.int .i64 (0 : Int)), AV.d (.str []), AV.d (.int .i64 (0 : Int)), AV.raw (Value.slice none 0 0), AV.raw (Value.slice none 0 0)]) ∧ ((Ob.box [AV.d (.int .i64 (0 : Int)), AV.d (.int .i64 (0 : Int)), AV.d (.bool false)] = Ob.box [AV.d (.int .i64 (0 : Int)), AV.d (.int .i64 (0 : Int)), AV.d (.bool false)]) ∧ ((Ob.box [AV.d (.int .i64 a), AV.d (.int .i64 (-1 : Int)), AV.d (.bool false)] = Ob.box [AV.d (.int .i64 a), AV.d (.int .i64 (-1 : Int)), AV.d (.bool false)]) ∧ ((Ob.row 5 (List.map ckD m ++ List.map ckD t) = Ob.row 5 (List.map ckD (m ++ t))) ∧ (True))))))))))))))))))))))) (False)) (h := {els := [(59, .el (ckD c))], H := [(14, [(2, .call [] (.d (.bool true)) [])]), (18, [(3, .call [] (.d (.sl (t.map ckD))) [])]), (16, [(3, .val (.bool true)), (8, .val (.bool false))])]}) (subs := []) (ws := []) (ρ := []) (by kernel_rfl) ?_
  have hj := get_lt hn
  have hi := inc_i64 (j := j) (by omega)
  have hcm : (m ++ t).map ckD = m.map ckD ++ t.map ckD := List.map_append ..
  subst hq
  try simp only [hi]
  simp only [List.length_map]
  refine condP_t (by rw [decide_eq_true_eq]; omega) ?_
  repeat' (with_reducible first | exact True.intro | apply And.intro | (first | apply zA | apply zB | apply zC | apply zD | apply zE | apply zF | apply zG) <;> intro)
  all_goals first | exact k1 | exact k2 | exact el_map hn rfl | exact congrArg (Ob.row 5) hcm.symm | exact ckD_sz _ | rfl | omega | (simp; omega) | exact dyes (by omega) | exact dno (by omega) | (refine congrArg D.bool ?_; simp [h1]; done) | skip

set_option maxRecDepth 100000 in
set_option maxHeartbeats 1000000 in
theorem s22d (s : Sq) (u now : Int) (all : List Iv) (a v : Int) (m t : List Ck) (hf : s.fl.length < 1000000) (hm : m.length + t.length < 1000000000) (j : Nat) (c : Ck) (hn : s.fl[j]? = some c) (q : Bool) (k1 : FnOK Try.prog 54 [.d (ckD c), .d (.sl (all.map ivD))] [] (.d (.bool q)) []) (k2 : FnOK Try.prog 55 [.d (ckD c), .d (.sl (all.map ivD))] [] (.d (.sl (t.map ckD))) []) (hq : q = true) (h1 : ¬c.r = 1) : Runs Try.prog 0 (loopN Try.prog 22 1) (St.as (J22 s u now all a v m j) 113) (.normal) (St.as (J22 s u now all a (-1) (m ++ t) (j+1)) 113) := by
  refine round_wp (p := condP (decide ((↑j : Int) < (↑(List.map ckD s.fl).length : Int))) (((0 : Int) ≤ (↑j : Int)) ∧ (((List.map ckD s.fl)[(↑j : Int).toNat]? = some (D.agg [D.int .i64 c.f, D.int .i64 c.t, D.int .i64 c.s, D.int .i64 c.r, D.bool c.l])) ∧ ((FnOK Try.prog 54 [AV.d (.agg [D.int .i64 c.f, D.int .i64 c.t, D.int .i64 c.s, D.int .i64 c.r, D.bool c.l]), AV.d (.sl (List.map ivD all))] [] (AV.d (.bool true)) []) ∧ ((D.bool (c.r == (1 : Int)) = D.bool false) ∧ ((FnOK Try.prog 55 [AV.d (.agg [D.int .i64 c.f, D.int .i64 c.t, D.int .i64 c.s, D.int .i64 c.r, D.bool c.l]), AV.d (.sl (List.map ivD all))] [] (AV.d (.sl (List.map ckD t))) []) ∧ ((((List.map ckD m).length + (List.map ckD t).length) * 40 ≤ 140737488355328) ∧ ((∀ (e : D), e ∈ List.map ckD t → e.cells.length = 5) ∧ ((AV.d (.int .i64 u) = AV.d (.int .i64 u)) ∧ ((AV.d (.int .i64 now) = AV.d (.int .i64 now)) ∧ ((AV.ptr 0 0 = AV.ptr 0 0) ∧ ((AV.ptr 1 0 = AV.ptr 1 0) ∧ ((AV.ptr 2 0 = AV.ptr 2 0) ∧ ((AV.d (.sl (List.map ivD all)) = AV.d (.sl (List.map ivD all))) ∧ ((AV.ptr 3 0 = AV.ptr 3 0) ∧ ((AV.own 1680 5 = AV.own 1680 5) ∧ ((AV.d (.int .i64 (IntKind.i64.wrap ((↑j : Int) + (1 : Int)))) = AV.d (.int .i64 (↑(j + 1) : Int))) ∧ ((Ob.box [AV.d (.int .i64 s.b), AV.d (.str s.d), AV.d (.int .i64 s.n), AV.d (.sl (List.map ckD s.fl)), AV.d (.sl (List.map ivD s.cm))] = Ob.box [AV.d (.int .i64 s.b), AV.d (.str s.d), AV.d (.int .i64 s.n), AV.d (.sl (List.map ckD s.fl)), AV.d (.sl (List.map ivD s.cm))]) ∧ ((Ob.box [AV.d (.int .i64 (0 : Int)), AV.d (.str []), AV.d (.int .i64 (0 : Int)), AV.raw (Value.slice none 0 0), AV.raw (Value.slice none 0 0)] = Ob.box [AV.d (.int .i64 (0 : Int)), AV.d (.str []), AV.d (.int .i64 (0 : Int)), AV.raw (Value.slice none 0 0), AV.raw (Value.slice none 0 0)]) ∧ ((Ob.box [AV.d (.int .i64 (0 : Int)), AV.d (.int .i64 (0 : Int)), AV.d (.bool false)] = Ob.box [AV.d (.int .i64 (0 : Int)), AV.d (.int .i64 (0 : Int)), AV.d (.bool false)]) ∧ ((Ob.box [AV.d (.int .i64 a), AV.d (.int .i64 (-1 : Int)), AV.d (.bool false)] = Ob.box [AV.d (.int .i64 a), AV.d (.int .i64 (-1 : Int)), AV.d (.bool false)]) ∧ ((Ob.row 5 (List.map ckD m ++ List.map ckD t) = Ob.row 5 (List.map ckD (m ++ t))) ∧ (True)))))))))))))))))))))) (False)) (h := {els := [(59, .el (ckD c))], H := [(14, [(2, .call [] (.d (.bool true)) [])]), (18, [(3, .call [] (.d (.sl (t.map ckD))) [])]), (16, [(3, .val (.bool false))])]}) (subs := []) (ws := []) (ρ := []) (by kernel_rfl) ?_
  have hj := get_lt hn
  have hi := inc_i64 (j := j) (by omega)
  have hcm : (m ++ t).map ckD = m.map ckD ++ t.map ckD := List.map_append ..
  subst hq
  try simp only [hi]
  simp only [List.length_map]
  refine condP_t (by rw [decide_eq_true_eq]; omega) ?_
  repeat' (with_reducible first | exact True.intro | apply And.intro | (first | apply zA | apply zB | apply zC | apply zD | apply zE | apply zF | apply zG) <;> intro)
  all_goals first | exact k1 | exact k2 | exact el_map hn rfl | exact congrArg (Ob.row 5) hcm.symm | exact ckD_sz _ | rfl | omega | (simp; omega) | exact dyes (by omega) | exact dno (by omega) | (refine congrArg D.bool ?_; simp [h1]; done) | skip

set_option maxRecDepth 100000 in
set_option maxHeartbeats 1000000 in
theorem t22 (s : Sq) (u now : Int) (all : List Iv) (a v : Int) (m : List Ck) : Runs Try.prog 0 (loopN Try.prog 22 1) (St.as (J22 s u now all a v m s.fl.length) 113) (.exit 2) (St.as (J22 s u now all a v m s.fl.length) 113) := by
  refine round_wp (p := condP (decide ((↑s.fl.length : Int) < (↑(List.map ckD s.fl).length : Int))) (False) ((AV.d (.int .i64 u) = AV.d (.int .i64 u)) ∧ ((AV.d (.int .i64 now) = AV.d (.int .i64 now)) ∧ ((AV.ptr 0 0 = AV.ptr 0 0) ∧ ((AV.ptr 1 0 = AV.ptr 1 0) ∧ ((AV.ptr 2 0 = AV.ptr 2 0) ∧ ((AV.d (.sl (List.map ivD all)) = AV.d (.sl (List.map ivD all))) ∧ ((AV.ptr 3 0 = AV.ptr 3 0) ∧ ((AV.own 4 5 = AV.own 4 5) ∧ ((AV.d (.int .i64 (↑s.fl.length : Int)) = AV.d (.int .i64 (↑s.fl.length : Int))) ∧ ((Ob.box [AV.d (.int .i64 s.b), AV.d (.str s.d), AV.d (.int .i64 s.n), AV.d (.sl (List.map ckD s.fl)), AV.d (.sl (List.map ivD s.cm))] = Ob.box [AV.d (.int .i64 s.b), AV.d (.str s.d), AV.d (.int .i64 s.n), AV.d (.sl (List.map ckD s.fl)), AV.d (.sl (List.map ivD s.cm))]) ∧ ((Ob.box [AV.d (.int .i64 (0 : Int)), AV.d (.str []), AV.d (.int .i64 (0 : Int)), AV.raw (Value.slice none 0 0), AV.raw (Value.slice none 0 0)] = Ob.box [AV.d (.int .i64 (0 : Int)), AV.d (.str []), AV.d (.int .i64 (0 : Int)), AV.raw (Value.slice none 0 0), AV.raw (Value.slice none 0 0)]) ∧ ((Ob.box [AV.d (.int .i64 (0 : Int)), AV.d (.int .i64 (0 : Int)), AV.d (.bool false)] = Ob.box [AV.d (.int .i64 (0 : Int)), AV.d (.int .i64 (0 : Int)), AV.d (.bool false)]) ∧ ((Ob.box [AV.d (.int .i64 a), AV.d (.int .i64 v), AV.d (.bool false)] = Ob.box [AV.d (.int .i64 a), AV.d (.int .i64 v), AV.d (.bool false)]) ∧ ((Ob.row 5 (List.map ckD m) = Ob.row 5 (List.map ckD m)) ∧ (True)))))))))))))))) (h := {}) (subs := []) (ws := []) (ρ := []) (by kernel_rfl) ?_
  repeat' (with_reducible first | exact True.intro | apply And.intro | (first | apply zA | apply zB | apply zC | apply zD | apply zE | apply zF | apply zG) <;> intro)
  all_goals (try simp only [List.length_map, AV.d.injEq, D.int.injEq, D.bool.injEq, D.str.injEq, D.sl.injEq, true_and, and_true, decide_eq_true_eq, decide_eq_false_iff_not, decide_eq_decide])
  all_goals (try simp only [List.length_map] at *)
  all_goals first | rfl | omega

theorem step22 (s : Sq) (u now : Int) (all : List Iv) (ha : all.length < 10000) (a : Int) (p : List Ck × Int) (hf : s.fl.length < 1000000) (j : Nat) (c : Ck) (hn : s.fl[j]? = some c) (hm : p.1.length + (lft c all).length < 1000000000) : Runs Try.prog 0 (loopN Try.prog 22 1) ((J22 s u now all a p.2 p.1 j).as 113) .normal ((J22 s u now all a (ackT all now p c).2 (ackT all now p c).1 (j+1)).as 113) := by
  have k1 := meets54 c all (by omega)
  have k2 := left55 c all ha
  unfold ackT
  cases hq : metB c all
  · rw [hq] at k1
    rw [if_neg (by simp)]
    exact s22a s u now all a p.2 p.1 (lft c all) hf hm j c hn _ k1 k2 rfl trivial
  · rw [hq] at k1
    rw [if_pos rfl]
    unfold smpl
    by_cases h1 : c.r = 1
    · by_cases h2 : now ≥ c.s
      · rw [if_pos ⟨h1, h2⟩]
        exact s22b s u now all a p.2 p.1 (lft c all) hf hm j c hn _ k1 k2 rfl h1 h2
      · rw [if_neg (fun g => h2 g.2)]
        exact s22c s u now all a p.2 p.1 (lft c all) hf hm j c hn _ k1 k2 rfl h1 h2
    · rw [if_neg (fun g => h1 g.1)]
      exact s22d s u now all a p.2 p.1 (lft c all) hf hm j c hn _ k1 k2 rfl h1
set_option maxRecDepth 100000 in
set_option maxHeartbeats 1000000 in
theorem ack22n (s : Sq) (u : Int) (l : List Iv) (now : Int) (k1 : FnOK Try.prog 51 [.d (sqD s), .d (.int .i64 u), .d (.sl (l.map ivD))] [] (.d (.bool false)) []) : FnOK Try.prog 22 ([.d (sqD s), .d (.int .i64 u), .d (.sl (l.map ivD)), .d (.int .i64 now)]) ([]) (.tup [.d (sqD s), .d (rpD ⟨0, -1, false⟩)]) ([]) := by
  refine fnOK_wp (p := (FnOK Try.prog 51 [AV.d (.agg [D.int .i64 s.b, D.str s.d, D.int .i64 s.n, D.sl (List.map ckD s.fl), D.sl (List.map ivD s.cm)]), AV.d (.int .i64 u), AV.d (.sl (List.map ivD l))] [] (AV.d (.bool false)) []) ∧ ((AV.tup [AV.d (.agg [D.int .i64 s.b, D.str s.d, D.int .i64 s.n, D.sl (List.map ckD s.fl), D.sl (List.map ivD s.cm)]), AV.d (.agg [D.int .i64 (0 : Int), D.int .i64 (-1 : Int), D.bool false])] = AV.tup [AV.d (.agg [D.int .i64 s.b, D.str s.d, D.int .i64 s.n, D.sl (List.map ckD s.fl), D.sl (List.map ivD s.cm)]), AV.d (.agg [D.int .i64 (0 : Int), D.int .i64 (-1 : Int), D.bool false])]) ∧ (True))) (h := {H := [(1, [(3, .call [] (.d (.bool false)) [])])]}) (subs := []) (ws := []) (ρ := []) (by kernel_rfl) ?_
  repeat' (with_reducible first | exact True.intro | apply And.intro | (first | apply zA | apply zB | apply zC | apply zD | apply zE | apply zF | apply zG) <;> intro)
  all_goals first | exact k1 | rfl | skip

set_option maxRecDepth 100000 in
set_option maxHeartbeats 1000000 in
theorem ack22y (s : Sq) (u : Int) (l : List Iv) (now : Int) (all0 all cm : List Iv) (na nc b x v : Int) (m : List Ck) (s' : Sq) (q : Bool) (hd : s.d.length < 1000000) (k1 : FnOK Try.prog 51 [.d (sqD s), .d (.int .i64 u), .d (.sl (l.map ivD))] [] (.d (.bool true)) []) (k2 : FnOK Try.prog 52 [.d (.sl (s.cm.map ivD)), .d (ivD (s.b, u))] [] (.d (.sl (all0.map ivD))) []) (hA : Loops Try.prog 0 (loopN Try.prog 22 0) ((I22 s u now l all0 0).as 113) (.exit 0) ((I22 s u now l all l.length).as 113)) (k3 : FnOK Try.prog 53 [.d (.sl (all.map ivD))] [] (.d (.int .i64 na)) []) (k4 : FnOK Try.prog 53 [.d (.sl (s.cm.map ivD))] [] (.d (.int .i64 nc)) []) (hB : Loops Try.prog 0 (loopN Try.prog 22 1) ((J22 s u now all (IntKind.i64.wrap (na - nc)) (-1) [] 0).as 113) (.exit 2) ((J22 s u now all (IntKind.i64.wrap (na - nc)) v m s.fl.length).as 113)) (k5 : FnOK Try.prog 56 [.d (.sl (all.map ivD)), .d (.int .i64 u)] [] (.d (.int .i64 b)) []) (hx : IntKind.i64.wrap (b - s.b) = x) (hx0 : 0 ≤ x) (hx1 : x ≤ s.d.length) (k6 : FnOK Try.prog 57 [.d (.sl (all.map ivD)), .d (ivD (0, b))] [] (.d (.sl (cm.map ivD))) []) (k7 : FnOK Try.prog 58 [.d (sqD ⟨b, s.d.drop x.toNat, s.n, m, cm⟩)] [] (.tup [.d (sqD s'), .d (.bool q)]) []) : FnOK Try.prog 22 ([.d (sqD s), .d (.int .i64 u), .d (.sl (l.map ivD)), .d (.int .i64 now)]) ([]) (.tup [.d (sqD s'), .d (rpD ⟨IntKind.i64.wrap (na - nc), v, q⟩)]) ([]) := by
  refine fnOK_wp (p := (FnOK Try.prog 51 [AV.d (.agg [D.int .i64 s.b, D.str s.d, D.int .i64 s.n, D.sl (List.map ckD s.fl), D.sl (List.map ivD s.cm)]), AV.d (.int .i64 u), AV.d (.sl (List.map ivD l))] [] (AV.d (.bool true)) []) ∧ ((FnOK Try.prog 52 [AV.d (.sl (List.map ivD s.cm)), AV.d (.agg [D.int .i64 s.b, D.int .i64 u])] [] (AV.d (.sl (List.map ivD all0))) []) ∧ ((AV.d (.int .i64 u) = AV.d (.int .i64 u)) ∧ ((AV.d (.sl (List.map ivD l)) = AV.d (.sl (List.map ivD l))) ∧ ((AV.d (.int .i64 now) = AV.d (.int .i64 now)) ∧ ((AV.ptr 1032 0 = AV.ptr 1032 0) ∧ ((AV.ptr 1064 0 = AV.ptr 1064 0) ∧ ((AV.ptr 1072 0 = AV.ptr 1072 0) ∧ ((AV.d (.sl (List.map ivD all0)) = AV.d (.sl (List.map ivD all0))) ∧ ((AV.d (.int .i64 (0 : Int)) = AV.d (.int .i64 (0 : Int))) ∧ ((Ob.box [AV.d (.int .i64 s.b), AV.d (.str s.d), AV.d (.int .i64 s.n), AV.d (.sl (List.map ckD s.fl)), AV.d (.sl (List.map ivD s.cm))] = Ob.box [AV.d (.int .i64 s.b), AV.d (.str s.d), AV.d (.int .i64 s.n), AV.d (.sl (List.map ckD s.fl)), AV.d (.sl (List.map ivD s.cm))]) ∧ ((Ob.box [AV.d (.int .i64 (0 : Int)), AV.d (.str []), AV.d (.int .i64 (0 : Int)), AV.raw (Value.slice none 0 0), AV.raw (Value.slice none 0 0)] = Ob.box [AV.d (.int .i64 (0 : Int)), AV.d (.str []), AV.d (.int .i64 (0 : Int)), AV.raw (Value.slice none 0 0), AV.raw (Value.slice none 0 0)]) ∧ ((Ob.box [AV.d (.int .i64 (0 : Int)), AV.d (.int .i64 (0 : Int)), AV.d (.bool false)] = Ob.box [AV.d (.int .i64 (0 : Int)), AV.d (.int .i64 (0 : Int)), AV.d (.bool false)]) ∧ ((LoopsS Try.prog 0 (loopN Try.prog 22 0) (I22 s u now l all0 0) (Exit.exit 0) (I22 s u now l all l.length) 113) ∧ ((FnOK Try.prog 53 [AV.d (.sl (List.map ivD all))] [] (AV.d (.int .i64 na)) []) ∧ ((FnOK Try.prog 53 [AV.d (.sl (List.map ivD s.cm))] [] (AV.d (.int .i64 nc)) []) ∧ ((AV.d (.int .i64 u) = AV.d (.int .i64 u)) ∧ ((AV.d (.int .i64 now) = AV.d (.int .i64 now)) ∧ ((AV.ptr 0 0 = AV.ptr 0 0) ∧ ((AV.ptr 1 0 = AV.ptr 1 0) ∧ ((AV.ptr 2 0 = AV.ptr 2 0) ∧ ((AV.d (.sl (List.map ivD all)) = AV.d (.sl (List.map ivD all))) ∧ ((AV.ptr 1096 0 = AV.ptr 1096 0) ∧ ((AV.own 904 5 = AV.own 904 5) ∧ ((AV.d (.int .i64 (0 : Int)) = AV.d (.int .i64 (0 : Int))) ∧ ((Ob.box [AV.d (.int .i64 s.b), AV.d (.str s.d), AV.d (.int .i64 s.n), AV.d (.sl (List.map ckD s.fl)), AV.d (.sl (List.map ivD s.cm))] = Ob.box [AV.d (.int .i64 s.b), AV.d (.str s.d), AV.d (.int .i64 s.n), AV.d (.sl (List.map ckD s.fl)), AV.d (.sl (List.map ivD s.cm))]) ∧ ((Ob.box [AV.d (.int .i64 (0 : Int)), AV.d (.str []), AV.d (.int .i64 (0 : Int)), AV.raw (Value.slice none 0 0), AV.raw (Value.slice none 0 0)] = Ob.box [AV.d (.int .i64 (0 : Int)), AV.d (.str []), AV.d (.int .i64 (0 : Int)), AV.raw (Value.slice none 0 0), AV.raw (Value.slice none 0 0)]) ∧ ((Ob.box [AV.d (.int .i64 (0 : Int)), AV.d (.int .i64 (0 : Int)), AV.d (.bool false)] = Ob.box [AV.d (.int .i64 (0 : Int)), AV.d (.int .i64 (0 : Int)), AV.d (.bool false)]) ∧ ((Ob.box [AV.d (.int .i64 (IntKind.i64.wrap (na - nc))), AV.d (.int .i64 (-1 : Int)), AV.d (.bool false)] = Ob.box [AV.d (.int .i64 (IntKind.i64.wrap (na - nc))), AV.d (.int .i64 (-1 : Int)), AV.d (.bool false)]) ∧ ((Ob.row 5 [] = Ob.row 5 []) ∧ ((LoopsS Try.prog 0 (loopN Try.prog 22 1) (J22 s u now all (IntKind.i64.wrap (na - nc)) (-1 : Int) [] 0) (Exit.exit 2) (J22 s u now all (IntKind.i64.wrap (na - nc)) v m s.fl.length) 113) ∧ ((FnOK Try.prog 56 [AV.d (.sl (List.map ivD all)), AV.d (.int .i64 u)] [] (AV.d (.int .i64 b)) []) ∧ ((D.int .i64 (IntKind.i64.wrap (b - s.b)) = D.int .i64 x) ∧ (((0 : Int) ≤ x ∧ x ≤ (↑s.d.length : Int) ∧ (↑s.d.length : Int) ≤ (↑s.d.length : Int)) ∧ ((FnOK Try.prog 57 [AV.d (.sl (List.map ivD all)), AV.d (.agg [D.int .i64 (0 : Int), D.int .i64 b])] [] (AV.d (.sl (List.map ivD cm))) []) ∧ ((FnOK Try.prog 58 [AV.d (.agg [D.int .i64 b, D.str (List.drop x.toNat (List.take (↑s.d.length : Int).toNat s.d)), D.int .i64 s.n, D.sl (List.map ckD m), D.sl (List.map ivD cm)])] [] (AV.tup [AV.d (.agg [D.int .i64 s'.b, D.str s'.d, D.int .i64 s'.n, D.sl (List.map ckD s'.fl), D.sl (List.map ivD s'.cm)]), AV.d (.bool q)]) []) ∧ ((AV.tup [AV.d (.agg [D.int .i64 s'.b, D.str s'.d, D.int .i64 s'.n, D.sl (List.map ckD s'.fl), D.sl (List.map ivD s'.cm)]), AV.d (.agg [D.int .i64 (IntKind.i64.wrap (na - nc)), D.int .i64 v, D.bool q])] = AV.tup [AV.d (.agg [D.int .i64 s'.b, D.str s'.d, D.int .i64 s'.n, D.sl (List.map ckD s'.fl), D.sl (List.map ivD s'.cm)]), AV.d (.agg [D.int .i64 (Rp.mk (IntKind.i64.wrap (na - nc)) v q).a, D.int .i64 (Rp.mk (IntKind.i64.wrap (na - nc)) v q).s, D.bool (Rp.mk (IntKind.i64.wrap (na - nc)) v q).l])]) ∧ (True)))))))))))))))))))))))))))))))))))))) (h := {W := [(21, [.freeze 4])], H := [(1, [(3, .call [] (.d (.bool true)) [])]), (3, [(6, .call [] (.d (.sl (all0.map ivD))) [])]), (8, [(1, .call [] (.d (.int .i64 na)) []), (4, .call [] (.d (.int .i64 nc)) [])]), (19, [(2, .call [] (.d (.int .i64 b)) [])]), (20, [(6, .val (.int .i64 x)), (14, .call [] (.d (.sl (cm.map ivD))) [])]), (21, [(1, .call [] (.tup [.d (sqD s'), .d (.bool q)]) [])])]}) (subs := [⟨[], [], I22 s u now l all0 0, .exit 0, I22 s u now l all l.length⟩, ⟨[], [], J22 s u now all (IntKind.i64.wrap (na - nc)) (-1) [] 0, .exit 2, J22 s u now all (IntKind.i64.wrap (na - nc)) v m s.fl.length⟩]) (ws := []) (ρ := []) (by kernel_rfl) ?_
  have htk : List.take ((s.d.length : Int)).toNat s.d = s.d := by rw [Int.toNat_natCast, List.take_length]
  try simp only [htk, List.length_map]
  repeat' (with_reducible first | exact True.intro | apply And.intro | (first | apply zA | apply zB | apply zC | apply zD | apply zE | apply zF | apply zG) <;> intro)
  all_goals first | exact k1 | exact k2 | exact k3 | exact k4 | exact k5 | exact k6 | exact k7 | exact hA | exact hB | exact congrArg (D.int .i64) hx | rfl | omega | (rw [List.take_length]; done) | (rw [List.take_length]; rfl) | skip

theorem ackT_len (all : List Iv) (now : Int) : ∀ (l : List Ck) (p : List Ck × Int), (l.foldl (ackT all now) p).1.length ≤ p.1.length + l.length * (all.length + 1)
  | [], p => by show p.1.length ≤ _; omega
  | c :: l, p => by
    have h1 := ackT_len all now l (ackT all now p c)
    have h2 := rGaps_len all (ckI c)
    have h3 : (ackT all now p c).1.length = p.1.length + (rGaps all (ckI c)).length := by unfold ackT lft; rw [List.length_append, List.length_map]
    show (l.foldl (ackT all now) (ackT all now p c)).1.length ≤ _
    rw [List.length_cons, Nat.succ_mul]
    omega
theorem ack22 (s : Sq) (h : SqOk s) (hf : s.fl.length < 100) (hc : s.cm.length < 100) (u : Int) (l : List Iv) (hl : l.length < 100) (hm : mayR s u l = mayQ s u l) (now : Int) :
    FnOK Try.prog 22 [.d (sqD s), .d (.int .i64 u), .d (.sl (l.map ivD)), .d (.int .i64 now)] [] (.tup [.d (sqD (rAckR s u l now).1), .d (rpD (rAckR s u l now).2)]) [] := by
  have k1 := may51 s h u l (by omega)
  unfold rAckR
  cases hq : mayR s u l
  · rw [hq] at k1
    exact ack22n s u l now k1
  · rw [hq] at k1 hm
    rw [if_neg (by simp)]
    have ao := all_ok h.n.2 hm.symm
    have hlen := ackAll_len s u l
    have hA := loops_n (P := Try.prog) (k := 0) (c := loopN Try.prog 22 0) (e := .exit 0) (I := fun j => (I22 s u now l ((l.take j).foldl rAdd (rAdd s.cm (s.b, u))) j).as 113) (by simp) l.length 0 (by omega) (fun j _ hj => by
      have hn := get_of hj
      show Runs _ _ _ _ _ ((I22 s u now l ((l.take (j + 1)).foldl rAdd (rAdd s.cm (s.b, u))) (j + 1)).as _)
      rw [take_snoc hn, List.foldl_append]
      have h1 := adds_len (l.take j) (rAdd s.cm (s.b, u))
      have h2 := rAdd_len1 s.cm (s.b, u)
      rw [List.length_take] at h1
      have k := add12 ((l.take j).foldl rAdd (rAdd s.cm (s.b, u))) (by omega) l[j]
      rw [← add_same] at k
      exact r22 s u now l _ _ (by omega) j _ hn k) (by simp only [List.take_length]; exact q22 s u now l _)
    have hA2 : Loops Try.prog 0 (loopN Try.prog 22 0) ((I22 s u now l (rAdd s.cm (s.b, u)) 0).as 113) (.exit 0) ((I22 s u now l (ackAll s u l) l.length).as 113) := hA
    clear hA
    generalize ackAll s u l = all at *
    obtain ⟨f1, f2, f3, f4⟩ := first_in ao
    have hb0 := ao.b0
    have hbu := ao.bu
    have hnd := ao.nd
    have hnb := ao.nb
    have hB := loops_n (P := Try.prog) (k := 0) (c := loopN Try.prog 22 1) (e := .exit 2) (I := fun j => (J22 s u now all (IntKind.i64.wrap (rCount all - rCount s.cm)) ((s.fl.take j).foldl (ackT all now) ([], -1)).2 ((s.fl.take j).foldl (ackT all now) ([], -1)).1 j).as 113) (by simp) s.fl.length 0 (by omega) (fun j _ hj => by
      have hn := get_of hj
      show Runs _ _ _ _ _ ((J22 s u now all _ ((s.fl.take (j + 1)).foldl (ackT all now) ([], -1)).2 ((s.fl.take (j + 1)).foldl (ackT all now) ([], -1)).1 (j + 1)).as _)
      rw [take_snoc hn, List.foldl_append]
      have h1 := ackT_len all now (s.fl.take j) ([], -1)
      have h2 := lft_len s.fl[j] all
      have h3 : (s.fl.take j).length * (all.length + 1) ≤ 100 * 203 := Nat.mul_le_mul (by rw [List.length_take]; omega) (by omega)
      simp only [List.length_nil] at h1
      exact step22 s u now all (by omega) _ _ (by omega) j _ hn (by omega)) (by simp only [List.take_length]; exact t22 s u now all _ _ _)
    have hxl := wrap_in (x := rFirst all u - s.b) (by omega) (by omega)
    have h1 := ackT_len all now s.fl ([], -1)
    have h3 : s.fl.length * (all.length + 1) ≤ 100 * 203 := Nat.mul_le_mul (by omega) (by omega)
    simp only [List.length_nil] at h1
    have hcl := rCut_len all (0, rFirst all u)
    have hfl : (acP s u all now).fl.length ≤ 20300 := by show (ackG s all now).1.length ≤ _; unfold ackG; omega
    have k7 := behind58 (acP s u all now) (by omega) (by omega) (by show (rCut all (0, rFirst all u)).length < _; omega)
    have k2 := add12 s.cm (by omega) (s.b, u)
    rw [← add_same] at k2
    have k5 := first29 all (by omega) u
    rw [← first_same ao.ok] at k5
    have k6 := cut14 all (by omega) (0, rFirst all u)
    rw [← cut_same] at k6
    exact ack22y s u l now (rAdd s.cm (s.b, u)) all (rCut all (0, rFirst all u)) (rCount all) (rCount s.cm) (rFirst all u) (rFirst all u - s.b) (ackG s all now).2 (ackG s all now).1 _ _ h.d k1 k2 hA2 (count22 all (by omega)) (count22 s.cm (by omega)) hB k5 hxl (by omega) (by omega) k6 k7
end Go.Proofs.Ytfllhedkgeljaaa

/-
laws 11, plain: the document's answers are the program's. No program.
-/
set_option linter.unusedSimpArgs false
set_option linter.unusedVariables false
namespace Go.Proofs.Ytfllhedkgeljaaa
open Sx Go.RowKit C06

/-! ### What is in order -/
theorem srt_last : ∀ {l : List Iv} {e : Int} {z : Iv}, Srt e l → l.getLast? = some z → ∀ x ∈ l, x.2 ≤ z.2
  | [], e, z, _, hz, x, hx => by cases hx
  | [y], e, z, h, hz, x, hx => by
    simp at hz hx
    subst hz; subst hx
    exact Int.le_refl _
  | y :: w :: l, e, z, h, hz, x, hx => by
    have hz' : (w :: l).getLast? = some z := by rw [List.getLast?_cons_cons] at hz; exact hz
    have ih := srt_last h.2 hz'
    rcases List.mem_cons.1 hx with rfl | hx
    · have h1 := ih w (by simp)
      have h2 := h.2.1
      omega
    · exact ih x hx
theorem srt_first {l : List Iv} {e : Int} {y : Iv} (h : Srt e l) (hy : l.head? = some y) : ∀ x ∈ l, y.1 ≤ x.1 := by
  cases l with
  | nil => cases hy
  | cons w l =>
    simp at hy
    subst hy
    intro x hx
    rcases List.mem_cons.1 hx with rfl | hx
    · exact Int.le_refl _
    · have h1 := srt_mem h.2 x hx
      have h2 := h.1
      omega
theorem ends_or (l : List Iv) : l = [] ∨ ∃ y z, l.head? = some y ∧ l.getLast? = some z ∧ y ∈ l ∧ z ∈ l := by
  by_cases h : l = []
  · exact .inl h
  · exact .inr ⟨l.head h, l.getLast h, List.head?_eq_some_head h, List.getLast?_eq_some_getLast h, List.head_mem h, List.getLast_mem h⟩
/-- All lie within, if the first and the last do. -/
theorem ends_all {l : List Iv} (h : Ok l) (p : Iv → Bool) (a b : Int) (hp : ∀ x, p x = true ↔ a ≤ x.1 ∧ x.2 ≤ b) :
    (match l.head?, l.getLast? with | some y, some z => decide (a ≤ y.1 ∧ z.2 ≤ b) | _, _ => true) = l.all p := by
  rcases ends_or l with rfl | ⟨y, z, h1, h2, h3, h4⟩
  · rfl
  · rw [h1, h2, Bool.eq_iff_iff, List.all_eq_true]
    show decide _ = true ↔ _
    rw [decide_eq_true_eq]
    constructor
    · intro g x hx
      have a1 := srt_first h.srt h1 x hx
      have a2 := srt_last h.srt h2 x hx
      exact (hp x).2 (by omega)
    · intro g
      have g1 := (hp y).1 (g y h3)
      have g2 := (hp z).1 (g z h4)
      omega
theorem camR_eq (s : Sq) : camR s = cameB s := by
  unfold camR cameB
  by_cases h : iChk s.cm = 0
  · rw [decide_eq_true h, Bool.true_and, Bool.true_and]
    rw [← ends_all (iChk_iff.1 h) (camB s) (s.b + 1) s.n (fun x => by unfold camB; simp; omega)]
    cases s.cm.head? with
    | none => rfl
    | some y =>
      cases s.cm.getLast? with
      | none => rfl
      | some z =>
        show (!decide _) = decide _
        rw [Bool.eq_iff_iff]
        simp; omega
  · rw [decide_eq_false h, Bool.false_and, Bool.false_and]
/-! ### What is free of what came -/
theorem ok_one {x : Iv} (h0 : 0 ≤ x.1) (h1 : x.1 < x.2) (h2 : x.2 ≤ 4611686018427387903) : Ok [x] := one_ok (mayB_iff.2 ⟨⟨h0, by omega⟩, by omega, h2⟩) (decide_eq_false (by omega))
theorem has_one (x : Iv) (n : Int) : has [x] n = inV x n := by unfold has inV; simp
theorem ok_nil : Ok [] := ⟨trivial, fun x hx => by cases hx⟩
theorem free_iff {cm : List Iv} (ok : Ok cm) {x : Iv} (h0 : 0 ≤ x.1) (h1 : x.1 < x.2) (h2 : x.2 ≤ 4611686018427387903) : rGaps cm x = [x] ↔ dMeet [x] cm = [] := by
  have o1 := ok_one h0 h1 h2
  have hm : mayB x = true := mayB_iff.2 ⟨⟨h0, by omega⟩, by omega, h2⟩
  obtain ⟨g1, g2⟩ := gaps_ok ok hm
  obtain ⟨m1, m2⟩ := meet_ok o1 ok
  rw [← meet_same]
  constructor
  · intro e
    refine ok_inj m1 ok_nil fun n => ?_
    have := g2 n
    rw [e, has_one] at this
    rw [m2, has_one]
    show _ = false
    cases hv : inV x n
    · rfl
    · rw [hv] at this
      cases hc : has cm n
      · rfl
      · rw [hc] at this; cases this
  · intro e
    refine ok_inj g1 o1 fun n => ?_
    have := m2 n
    rw [e, has_one] at this
    rw [g2, has_one]
    have h0 : has [] n = false := rfl
    rw [h0] at this
    cases hv : inV x n
    · rfl
    · rw [hv] at this
      cases hc : has cm n
      · rfl
      · rw [hc] at this; cases this
theorem right_fits {s : Sq} (ok : Ok s.cm) (hn : s.n ≤ 1099511632000) (c : Ck) {a : Int} (ha : 0 ≤ a) : rightB s c a = fitsB s c a := by
  unfold rightB fitsB
  cases h : offB s c a
  · have g := of_decide_eq_false h
    have e : (!metB c s.cm) = decide (rGaps s.cm (ckI c) = [ckI c]) := by
      have hf := free_iff ok (x := ckI c) (by show 0 ≤ c.f; omega) (by show c.f < c.t; omega) (by show c.t ≤ _; omega)
      unfold metB
      by_cases q : rGaps s.cm (ckI c) = [ckI c]
      · rw [decide_eq_true q, hf.1 q]; rfl
      · rw [decide_eq_false q]
        have : dMeet [ckI c] s.cm ≠ [] := fun e => q (hf.2 e)
        have := List.length_pos_iff.2 this
        simp; omega
    rw [e]
  · rfl
theorem flR_eq {s : Sq} (ok : Ok s.cm) (hn : s.n ≤ 1099511632000) : ∀ (l : List Ck) {a : Int}, 0 ≤ a → flR s l a = flB s l a
  | [], a, _ => rfl
  | c :: l, a, ha => by
    unfold flR flB
    rw [right_fits ok hn c ha]
    cases h : fitsB s c a
    · rfl
    · have := fits_in ha hn h
      rw [flR_eq ok hn l (a := c.t) (by omega)]
theorem sChkR_eq {s : Sq} (hn : s.n < 9223372036854775808) : sChkR s = sChk s := by
  unfold sChkR sChk
  by_cases h1 : rngB s = true
  · rw [if_pos h1, if_pos h1]
  · rw [if_neg h1, if_neg h1]
    by_cases h2 : (s.d.length : Int) > 4096
    · rw [if_pos h2, if_pos h2]
    · rw [if_neg h2, if_neg h2, camR_eq]
      by_cases h3 : cameB s = false
      · rw [if_pos h3, if_pos h3]
      · rw [if_neg h3, if_neg h3]
        have h5 : rngB s = false := by cases g : rngB s; rfl; exact absurd g h1
        have h6 := of_decide_eq_false h5
        unfold lastP at h6
        by_cases a : s.b < 0
        · exact absurd (.inl a) h6
        by_cases b : s.b > 1099511623680
        · exact absurd (.inr (.inl b)) h6
        by_cases c : s.n < s.b
        · exact absurd (.inr (.inr (.inl c))) h6
        have hw : IntKind.i64.wrap (s.n - s.b) = s.n - s.b := wrap_in (by omega) (by omega)
        by_cases d : IntKind.i64.wrap (s.n - s.b) > (s.d.length : Int)
        · exact absurd (.inr (.inr (.inr d))) h6
        rw [hw] at d
        have h7 : cameB s = true := by cases g : cameB s; exact absurd g h3; rfl
        rw [flR_eq (cameB_ok h7).1 (by omega) s.fl (by omega)]
theorem mayR_eq {s : Sq} (hn : s.n < 9223372036854775808) (u : Int) (l : List Iv) : mayR s u l = mayQ s u l := by
  unfold mayR mayQ
  rw [sChkR_eq hn]
  by_cases g : sChk s = 0 ∧ s.b ≤ u ∧ u ≤ s.n ∧ iChk l = 0
  · rw [decide_eq_true g, Bool.true_and, Bool.true_and]
    have e : (!l.any (outB s u)) = l.all (fun x => !outB s u x) := by rw [← List.not_any_eq_all_not]
    rw [e, ← ends_all (iChk_iff.1 g.2.2.2) (fun x => !outB s u x) u s.n (fun x => by unfold outB; simp)]
    all_goals rfl
  · rw [decide_eq_false g, Bool.false_and, Bool.false_and]
/-! ### How much is left -/
theorem cnt_pos : ∀ {l : List Iv} {e : Int}, Srt e l → 0 ≤ cnt l ∧ (l ≠ [] → 0 < cnt l)
  | [], e, _ => ⟨Int.le_refl _, fun h => absurd rfl h⟩
  | x :: l, e, h => by
    have ih := cnt_pos h.2
    have := h.1
    have e1 : cnt (x :: l) = (x.2 - x.1) + cnt l := rfl
    exact ⟨by omega, fun _ => by omega⟩
theorem szS_cnt (c : Ck) : ∀ (l : List Iv) (e M n : Int), Srt e l → -1 ≤ e → (∀ x ∈ l, x.2 ≤ M) → M ≤ 4611686018427387903 → 0 ≤ n → n ≤ e + 1 → (l.map (part c)).foldl szS n = n + cnt l
  | [], e, M, n, _, _, _, _, _, _ => by show n = n + 0; omega
  | x :: l, e, M, n, h, he, hM, hM2, h0, hn => by
    have hx := h.1
    have hx2 := hM x (by simp)
    have e1 : cSz (part c x) = x.2 - x.1 := wrap_in (by show _ ≤ x.2 - x.1; omega) (by show x.2 - x.1 < _; omega)
    have e2 : szS n (part c x) = n + (x.2 - x.1) := by unfold szS; rw [e1]; exact wrap_in (by omega) (by omega)
    have ih := szS_cnt c l x.2 M (n + (x.2 - x.1)) h.2 (by omega) (fun y hy => hM y (List.mem_cons_of_mem _ hy)) hM2 (by omega) (by omega)
    rw [List.map_cons, List.foldl_cons, e2, ih]
    show _ = n + ((x.2 - x.1) + cnt l)
    omega
theorem gap_meet {all : List Iv} (ok : Ok all) {x : Iv} (h0 : 0 ≤ x.1) (h1 : x.1 < x.2) (h2 : x.2 ≤ 4611686018427387903) : cnt (rGaps all x) + cnt (rMeet [x] all) = x.2 - x.1 := by
  have o1 := ok_one h0 h1 h2
  have hm : mayB x = true := mayB_iff.2 ⟨⟨h0, by omega⟩, by omega, h2⟩
  obtain ⟨g1, g2⟩ := gaps_ok ok hm
  obtain ⟨m1, m2⟩ := meet_ok o1 ok
  have hK : (x.2.toNat : Int) = x.2 := by omega
  have l1 : Low x.2.toNat (rGaps all x) := ⟨g1, fun n hn => by rw [g2, show inV x n = false from decide_eq_false (by omega)]; rfl⟩
  have l2 : Low x.2.toNat (rMeet [x] all) := ⟨m1, fun n hn => by rw [m2, has_one, show inV x n = false from decide_eq_false (by omega)]; rfl⟩
  have c1 := cnt_num (K := x.2.toNat) (by omega) g1.srt (low_end l1)
  have c2 := cnt_num (K := x.2.toNat) (by omega) m1.srt (low_end l2)
  rw [c1, c2, ← num_or (fun n _ hn => by
    rw [g2, Bool.and_eq_true, Bool.not_eq_true'] at hn
    rw [m2, hn.2, Bool.and_false])]
  have e : num (fun n => has (rGaps all x) n || has (rMeet [x] all) n) x.2.toNat = num (inV x) x.2.toNat := num_ext fun n _ => by
    rw [g2, m2, has_one]
    cases inV x n <;> cases has all n <;> rfl
  rw [e, num_in h0 (by omega), if_neg (by omega)]
  omega
theorem some_met {all : List Iv} (ok : Ok all) {c : Ck} (h0 : 0 ≤ c.f) (h1 : c.f < c.t) (h2 : c.t ≤ 4611686018427387903) : someB c all = metB c all := by
  have hm : mayB (ckI c) = true := mayB_iff.2 ⟨⟨h0, by show c.f ≤ _; omega⟩, by show 0 ≤ c.t; omega, h2⟩
  have o1 := ok_one (x := ckI c) h0 h1 h2
  obtain ⟨g1, g2⟩ := gaps_ok ok hm
  obtain ⟨m1, m2⟩ := meet_ok o1 ok
  have hg := gap_meet ok (x := ckI c) h0 h1 h2
  have hs : (lft c all).foldl szS 0 = cnt (rGaps all (ckI c)) := by
    unfold lft
    rw [szS_cnt c _ (-1) 4611686018427387903 0 g1.srt (by omega) g1.up (by omega) (by omega) (by omega)]
    omega
  have hz : cSz c = c.t - c.f := wrap_in (by omega) (by omega)
  have hp := cnt_pos m1.srt
  unfold someB metB
  rw [hs, hz, ← meet_same]
  have e1 : (ckI c).2 - (ckI c).1 = c.t - c.f := rfl
  rw [e1] at hg
  rw [Bool.eq_iff_iff, decide_eq_true_eq, decide_eq_true_eq]
  constructor
  · intro g
    have : rMeet [ckI c] all ≠ [] := fun e => by rw [e] at hg; have : cnt [] = 0 := rfl; omega
    have := List.length_pos_iff.2 this
    omega
  · intro g
    have := hp.2 (fun e => by rw [e] at g; simp at g)
    omega
/-! ### What an acknowledgement leaves -/
theorem fold_ext {α β : Type} {f g : β → α → β} : ∀ {l : List α}, (∀ x ∈ l, ∀ b, f b x = g b x) → ∀ b, l.foldl f b = l.foldl g b
  | [], _, b => rfl
  | x :: l, h, b => by
    rw [List.foldl_cons, List.foldl_cons, h x (by simp) b]
    exact fold_ext (fun y hy => h y (List.mem_cons_of_mem _ hy)) _
theorem fl_in {s : Sq} (hn : s.n < 9223372036854775808) (h : sChk s = 0) {c : Ck} (hc : c ∈ s.fl) : s.b ≤ c.f ∧ c.f < c.t ∧ c.t ≤ s.n ∧ c.t - c.f ≤ 48 ∧ (0 ≤ c.s ∧ c.s ≤ 1099511627776) ∧ (1 ≤ c.r ∧ c.r ≤ 1073741824) := by
  obtain ⟨⟨c1, c2, c3, c4⟩, c5, c6, c7⟩ := sChk_ok hn h
  unfold lastP at c2
  obtain ⟨a', ha1, ha2⟩ := flB_mem s s.fl s.b c7 c hc
  have := fits_in (a := a') (by omega) (by omega) ha2
  omega
theorem ackG_eq {s : Sq} (hn : s.n < 9223372036854775808) (h : sChk s = 0) {all : List Iv} (ok : Ok all) (now : Int) : ackG s all now = ackF s all now := by
  unfold ackG ackF
  refine fold_ext (fun c hc p => ?_) _
  obtain ⟨⟨c1, c2, c3, c4⟩, c5, c6, c7⟩ := sChk_ok hn h
  unfold lastP at c2
  have := fl_in hn h hc
  unfold ackT ackS
  rw [some_met ok (by omega) (by omega) (by omega)]
theorem far_eq {e : Int} {c : Ck} (h0 : 0 ≤ c.t ∧ c.t ≤ 4611686018427387903) (h1 : 0 ≤ e ∧ e ≤ 4611686018427387903) : farR e c = farB e c := by
  unfold farR farB
  rw [wrap_in (x := c.t + 96) (by omega) (by omega), wrap_in (x := e - c.t) (by omega) (by omega)]
  congr 1
  rw [Bool.eq_iff_iff, decide_eq_true_eq, decide_eq_true_eq]
  omega
/-- What is under way ends where numbers may. -/
theorem ackS_fl {all : List Iv} {now : Int} (ok : Ok all) : ∀ (l : List Ck) (p : List Ck × Int), (∀ c ∈ l, mayB (ckI c) = true) → (∀ c ∈ p.1, 0 ≤ c.t ∧ c.t ≤ 4611686018427387903) → ∀ c ∈ (l.foldl (ackS all now) p).1, 0 ≤ c.t ∧ c.t ≤ 4611686018427387903
  | [], p, _, h => h
  | x :: l, p, hl, h => by
    refine ackS_fl ok l (ackS all now p x) (fun c hc => hl c (List.mem_cons_of_mem _ hc)) fun c hc => ?_
    unfold ackS at hc
    rcases List.mem_append.1 hc with hc | hc
    · exact h c hc
    · unfold lft at hc
      obtain ⟨y, hy, rfl⟩ := List.mem_map.1 hc
      have := mayB_iff.1 (ok_may (gaps_ok ok (hl x (by simp))).1 hy).1
      exact ⟨this.2.1, this.2.2⟩
theorem behind_eq {s : Sq} (hc : ∀ x ∈ s.cm, 0 ≤ x.2 ∧ x.2 ≤ 4611686018427387903) (hf : ∀ c ∈ s.fl, 0 ≤ c.t ∧ c.t ≤ 4611686018427387903) : rBehind s = rLose s := by
  unfold rBehind rLose
  cases hz : s.cm.getLast? with
  | none => rfl
  | some z =>
    have h1 := hc z (List.mem_of_getLast? hz)
    have e1 : s.fl.map (loseR z.2) = s.fl.map (loseC z.2) := List.map_congr_left fun c hm => by unfold loseR loseC; rw [far_eq (hf c hm) h1]
    have e2 : s.fl.any (farR z.2) = s.fl.any (farB z.2) := by
      rw [Bool.eq_iff_iff, List.any_eq_true, List.any_eq_true]
      exact ⟨fun ⟨c, m, g⟩ => ⟨c, m, by rw [← far_eq (hf c m) h1]; exact g⟩, fun ⟨c, m, g⟩ => ⟨c, m, by rw [far_eq (hf c m) h1]; exact g⟩⟩
    dsimp only
    rw [e1, e2]
theorem rAckR_eq {s : Sq} (hn : s.n < 9223372036854775808) (u : Int) (l : List Iv) (now : Int) : rAckR s u l now = rAck s u l now := by
  unfold rAckR rAck
  rw [mayR_eq hn]
  cases hq : mayQ s u l
  · rfl
  · rw [if_neg (by simp), if_neg (by simp)]
    obtain ⟨h1, -⟩ := mayQ_ok hq
    have ao := all_ok hn hq
    have eG := ackG_eq hn h1 ao.ok now
    have eP : acP s u (ackAll s u l) now = acO s u (ackAll s u l) now := by unfold acP acO; rw [eG]
    have hb0 := ao.b0
    have hbu := ao.bu
    have hnd := ao.nd
    have hnb := ao.nb
    obtain ⟨f1, f2, -⟩ := first_in ao
    have hmf : mayB (0, rFirst (ackAll s u l) u) = true := mayB_iff.2 ⟨⟨Int.le_refl _, by show (0:Int) ≤ _; omega⟩, by show 0 ≤ rFirst _ _; omega, by show rFirst _ _ ≤ _; omega⟩
    have hL : rBehind (acO s u (ackAll s u l) now) = rLose (acO s u (ackAll s u l) now) := behind_eq (fun x hx => by
      have := mayB_iff.1 (ok_may (cut_has ao.ok hmf).1 hx).1
      exact ⟨this.2.1, this.2.2⟩) (ackS_fl ao.ok s.fl ([], -1) (fun c hc => by
        have := fl_in hn h1 hc
        exact mayB_iff.2 ⟨⟨by show 0 ≤ c.f; omega, by show c.f ≤ _; omega⟩, by show 0 ≤ c.t; omega, by show c.t ≤ _; omega⟩) (fun c hc => by cases hc))
    rw [eP, eG, hL]
end Go.Proofs.Ytfllhedkgeljaaa

/-
laws 11: awake.
-/
set_option linter.unusedSimpArgs false
set_option linter.unusedVariables false
namespace Go.Proofs.Ytfllhedkgeljaaa
open Sx Go.RowKit C06

def tAbc : List UInt8 := [97, 98, 99]
def v0 : Sq := ⟨0, [], 0, [], []⟩
def v1 : Sq := ⟨0, [97, 98, 99], 0, [], []⟩
def d1 : Ck := ⟨0, 2, 7, 1, false⟩
def v2 : Sq := ⟨0, [97, 98, 99], 2, [⟨0, 2, 7, 1, false⟩], []⟩
def v3 : Sq := ⟨1, [98, 99], 2, [⟨1, 2, 7, 1, false⟩], []⟩
def v4 : Sq := ⟨1, [98, 99], 2, [⟨1, 2, 7, 1, true⟩], []⟩
def d5 : Ck := ⟨1, 2, 9, 2, false⟩
def v5 : Sq := ⟨1, [98, 99], 2, [⟨1, 2, 9, 2, false⟩], []⟩
set_option maxRecDepth 100000 in
set_option maxHeartbeats 1000000 in
theorem aw8  : FnOK Try.prog 8 ([]) ([]) (.d (.bool true)) ([]) := by
  refine fnOK_wp (p := (FnOK Try.prog 30 [] [] (AV.d (.agg [D.int .i64 (0 : Int), D.str [], D.int .i64 (0 : Int), D.sl [], D.sl []])) []) ∧ ((FnOK Try.prog 10 [AV.d (.agg [D.int .i64 (0 : Int), D.str [], D.int .i64 (0 : Int), D.sl [], D.sl []]), AV.d (.str [(97 : UInt8), (98 : UInt8), (99 : UInt8)])] [] (AV.tup [AV.d (.agg [D.int .i64 (0 : Int), D.str [(97 : UInt8), (98 : UInt8), (99 : UInt8)], D.int .i64 (0 : Int), D.sl [], D.sl []]), AV.d (.int .i64 (3 : Int))]) []) ∧ ((FnOK Try.prog 12 [AV.d (.agg [D.int .i64 (0 : Int), D.str [(97 : UInt8), (98 : UInt8), (99 : UInt8)], D.int .i64 (0 : Int), D.sl [], D.sl []]), AV.d (.int .i64 (7 : Int)), AV.d (.int .i64 (2 : Int)), AV.d (.int .i64 (96 : Int))] [] (AV.tup [AV.d (.agg [D.int .i64 (0 : Int), D.str [(97 : UInt8), (98 : UInt8), (99 : UInt8)], D.int .i64 (2 : Int), D.sl [D.agg [D.int .i64 (0 : Int), D.int .i64 (2 : Int), D.int .i64 (7 : Int), D.int .i64 (1 : Int), D.bool false]], D.sl []]), AV.d (.agg [D.int .i64 (0 : Int), D.int .i64 (2 : Int), D.int .i64 (7 : Int), D.int .i64 (1 : Int), D.bool false]), AV.d (.str [(97 : UInt8), (98 : UInt8)])]) []) ∧ ((FnOK Try.prog 12 [AV.d (.agg [D.int .i64 (0 : Int), D.str [(97 : UInt8), (98 : UInt8), (99 : UInt8)], D.int .i64 (2 : Int), D.sl [D.agg [D.int .i64 (0 : Int), D.int .i64 (2 : Int), D.int .i64 (7 : Int), D.int .i64 (1 : Int), D.bool false]], D.sl []]), AV.d (.int .i64 (7 : Int)), AV.d (.int .i64 (2 : Int)), AV.d (.int .i64 (96 : Int))] [] (AV.tup [AV.d (.agg [D.int .i64 (0 : Int), D.str [(97 : UInt8), (98 : UInt8), (99 : UInt8)], D.int .i64 (2 : Int), D.sl [D.agg [D.int .i64 (0 : Int), D.int .i64 (2 : Int), D.int .i64 (7 : Int), D.int .i64 (1 : Int), D.bool false]], D.sl []]), AV.d (.agg [D.int .i64 (0 : Int), D.int .i64 (0 : Int), D.int .i64 (0 : Int), D.int .i64 (0 : Int), D.bool false]), AV.d (.str [])]) []) ∧ ((FnOK Try.prog 20 [AV.d (.agg [D.int .i64 (0 : Int), D.str [(97 : UInt8), (98 : UInt8), (99 : UInt8)], D.int .i64 (2 : Int), D.sl [D.agg [D.int .i64 (0 : Int), D.int .i64 (2 : Int), D.int .i64 (7 : Int), D.int .i64 (1 : Int), D.bool false]], D.sl []]), AV.d (.int .i64 (1 : Int)), AV.d (.sl []), AV.d (.int .i64 (9 : Int))] [] (AV.tup [AV.d (.agg [D.int .i64 (1 : Int), D.str [(98 : UInt8), (99 : UInt8)], D.int .i64 (2 : Int), D.sl [D.agg [D.int .i64 (1 : Int), D.int .i64 (2 : Int), D.int .i64 (7 : Int), D.int .i64 (1 : Int), D.bool false]], D.sl []]), AV.d (.agg [D.int .i64 (1 : Int), D.int .i64 (2 : Int), D.bool false])]) []) ∧ ((FnOK Try.prog 14 [AV.d (.agg [D.int .i64 (1 : Int), D.str [(98 : UInt8), (99 : UInt8)], D.int .i64 (2 : Int), D.sl [D.agg [D.int .i64 (1 : Int), D.int .i64 (2 : Int), D.int .i64 (7 : Int), D.int .i64 (1 : Int), D.bool false]], D.sl []])] [] (AV.tup [AV.d (.agg [D.int .i64 (1 : Int), D.str [(98 : UInt8), (99 : UInt8)], D.int .i64 (2 : Int), D.sl [D.agg [D.int .i64 (1 : Int), D.int .i64 (2 : Int), D.int .i64 (7 : Int), D.int .i64 (1 : Int), D.bool true]], D.sl []]), AV.d (.bool true)]) []) ∧ ((FnOK Try.prog 12 [AV.d (.agg [D.int .i64 (1 : Int), D.str [(98 : UInt8), (99 : UInt8)], D.int .i64 (2 : Int), D.sl [D.agg [D.int .i64 (1 : Int), D.int .i64 (2 : Int), D.int .i64 (7 : Int), D.int .i64 (1 : Int), D.bool true]], D.sl []]), AV.d (.int .i64 (9 : Int)), AV.d (.int .i64 (0 : Int)), AV.d (.int .i64 (0 : Int))] [] (AV.tup [AV.d (.agg [D.int .i64 (1 : Int), D.str [(98 : UInt8), (99 : UInt8)], D.int .i64 (2 : Int), D.sl [D.agg [D.int .i64 (1 : Int), D.int .i64 (2 : Int), D.int .i64 (9 : Int), D.int .i64 (2 : Int), D.bool false]], D.sl []]), AV.d (.agg [D.int .i64 (1 : Int), D.int .i64 (2 : Int), D.int .i64 (9 : Int), D.int .i64 (2 : Int), D.bool false]), AV.d (.str [(98 : UInt8)])]) []) ∧ ((FnOK Try.prog 16 [AV.d (.agg [D.int .i64 (1 : Int), D.str [(98 : UInt8), (99 : UInt8)], D.int .i64 (2 : Int), D.sl [D.agg [D.int .i64 (1 : Int), D.int .i64 (2 : Int), D.int .i64 (9 : Int), D.int .i64 (2 : Int), D.bool false]], D.sl []])] [] (AV.tup [AV.d (.int .i64 (9 : Int)), AV.d (.bool true)]) []) ∧ ((D.bool true = D.bool true) ∧ ((D.bool true = D.bool true) ∧ ((D.bool true = D.bool true) ∧ ((FnOK Try.prog 29 [AV.d (.agg [D.int .i64 (0 : Int), D.str [(97 : UInt8), (98 : UInt8), (99 : UInt8)], D.int .i64 (2 : Int), D.sl [D.agg [D.int .i64 (0 : Int), D.int .i64 (2 : Int), D.int .i64 (7 : Int), D.int .i64 (1 : Int), D.bool false]], D.sl []]), AV.d (.agg [D.int .i64 (0 : Int), D.str [(97 : UInt8), (98 : UInt8), (99 : UInt8)], D.int .i64 (2 : Int), D.sl [D.agg [D.int .i64 (0 : Int), D.int .i64 (2 : Int), D.int .i64 (7 : Int), D.int .i64 (1 : Int), D.bool false]], D.sl []])] [] (AV.d (.bool true)) []) ∧ ((D.bool true = D.bool true) ∧ ((D.bool true = D.bool true) ∧ ((D.bool true = D.bool true) ∧ ((D.bool true = D.bool true) ∧ ((D.bool true = D.bool true) ∧ ((D.bool true = D.bool true) ∧ ((FnOK Try.prog 24 [AV.d (.agg [D.int .i64 (1 : Int), D.str [(98 : UInt8), (99 : UInt8)], D.int .i64 (2 : Int), D.sl [D.agg [D.int .i64 (1 : Int), D.int .i64 (2 : Int), D.int .i64 (7 : Int), D.int .i64 (1 : Int), D.bool false]], D.sl []])] [] (AV.d (.int .i64 (1 : Int))) []) ∧ ((D.bool true = D.bool true) ∧ ((D.bool true = D.bool true) ∧ ((FnOK Try.prog 24 [AV.d (.agg [D.int .i64 (1 : Int), D.str [(98 : UInt8), (99 : UInt8)], D.int .i64 (2 : Int), D.sl [D.agg [D.int .i64 (1 : Int), D.int .i64 (2 : Int), D.int .i64 (7 : Int), D.int .i64 (1 : Int), D.bool true]], D.sl []])] [] (AV.d (.int .i64 (0 : Int))) []) ∧ ((D.bool true = D.bool true) ∧ ((D.bool true = D.bool true) ∧ ((D.bool true = D.bool true) ∧ ((D.bool true = D.bool true) ∧ ((D.bool true = D.bool true) ∧ ((FnOK Try.prog 26 [AV.d (.agg [D.int .i64 (1 : Int), D.str [(98 : UInt8), (99 : UInt8)], D.int .i64 (2 : Int), D.sl [D.agg [D.int .i64 (1 : Int), D.int .i64 (2 : Int), D.int .i64 (9 : Int), D.int .i64 (2 : Int), D.bool false]], D.sl []])] [] (AV.d (.int .i64 (4094 : Int))) []) ∧ ((D.bool true = D.bool true) ∧ ((FnOK Try.prog 28 [AV.d (.agg [D.int .i64 (1 : Int), D.str [(98 : UInt8), (99 : UInt8)], D.int .i64 (2 : Int), D.sl [D.agg [D.int .i64 (1 : Int), D.int .i64 (2 : Int), D.int .i64 (9 : Int), D.int .i64 (2 : Int), D.bool false]], D.sl []])] [] (AV.d (.int .i64 (0 : Int))) []) ∧ ((D.bool true = D.bool true) ∧ ((FnOK Try.prog 29 [AV.d (.agg [D.int .i64 (1 : Int), D.str [(98 : UInt8), (99 : UInt8)], D.int .i64 (2 : Int), D.sl [D.agg [D.int .i64 (1 : Int), D.int .i64 (2 : Int), D.int .i64 (7 : Int), D.int .i64 (1 : Int), D.bool true]], D.sl []]), AV.d (.agg [D.int .i64 (1 : Int), D.str [(98 : UInt8), (99 : UInt8)], D.int .i64 (2 : Int), D.sl [D.agg [D.int .i64 (1 : Int), D.int .i64 (2 : Int), D.int .i64 (9 : Int), D.int .i64 (2 : Int), D.bool false]], D.sl []])] [] (AV.d (.bool false)) []) ∧ ((AV.d (.bool true) = AV.d (.bool true)) ∧ (True)))))))))))))))))))))))))))))))))) (h := {chain := true, H := [(1, [(0, .call [] (.d (sqD v0)) []), (1, .call [] (.tup [.d (sqD v1), .d (.int .i64 3)]) [])]), (2, [(1, .call [] (.tup [.d (sqD v2), .d (ckD d1), .d (.str [97, 98])]) [])]), (3, [(1, .call [] (.tup [.d (sqD v2), .d (ckD ck0), .d (.str [])]) [])]), (4, [(1, .call [] (.tup [.d (sqD v3), .d (rpD ⟨1, 2, false⟩)]) [])]), (5, [(1, .call [] (.tup [.d (sqD v4), .d (.bool true)]) [])]), (6, [(1, .call [] (.tup [.d (sqD v5), .d (ckD d5), .d (.str [98])]) [])]), (7, [(1, .call [] (.tup [.d (.int .i64 9), .d (.bool true)]) [])]), (8, [(14, .call [] (.d (.bool true)) []), (42, .call [] (.d (.int .i64 1)) []), (50, .call [] (.d (.int .i64 0)) []), (71, .call [] (.d (.int .i64 4094)) []), (76, .call [] (.d (.int .i64 0)) []), (82, .call [] (.d (.bool false)) [])])]}) (subs := []) (ws := []) (ρ := []) (by kernel_rfl) ?_
  have k0 := new30 trivial trivial
  have o0 : SqOk v0 := ⟨by decide, by decide, by decide, by decide, by decide⟩
  have o1 : SqOk v1 := ⟨by decide, by decide, by decide, by decide, by decide⟩
  have o2 : SqOk v2 := ⟨by decide, by decide, by decide, by decide, by decide⟩
  have o3 : SqOk v3 := ⟨by decide, by decide, by decide, by decide, by decide⟩
  have o4 : SqOk v4 := ⟨by decide, by decide, by decide, by decide, by decide⟩
  have o5 : SqOk v5 := ⟨by decide, by decide, by decide, by decide, by decide⟩
  have k1 := write10 v0 o0 tAbc (by decide)
  rw [show rWrite v0 tAbc = (v1, 3) by decide +kernel] at k1
  have k2 := pick12 v1 o1 7 2 96 (by decide) (by decide)
  rw [show rPick v1 7 2 96 = (v2, d1, [97, 98]) by decide +kernel] at k2
  have k3 := pick12 v2 o2 7 2 96 (by decide) (by decide)
  rw [show rPick v2 7 2 96 = (v2, ck0, []) by decide +kernel] at k3
  have k4 := ack20 v2 o2 (by decide) (by decide) 1 [] (by decide) 9
  rw [show rAck v2 1 [] 9 = (v3, ⟨1, 2, false⟩) by decide +kernel] at k4
  have k5 := expire14 v3 o3
  rw [show rExpire v3 = (v4, true) by decide +kernel] at k5
  have k6 := pick12 v4 o4 9 0 0 (by decide) (by decide)
  rw [show rPick v4 9 0 0 = (v5, d5, [98]) by decide +kernel] at k6
  have k7 := oldest16 v5 (by decide)
  rw [show rOldest v5 = (9, true) by decide +kernel] at k7
  have s1 := same29 v2 v2 o2
  rw [show decide (v2 = v2) = true by decide] at s1
  have s2 := same29 v4 v5 o4
  rw [show decide (v4 = v5) = false by decide] at s2
  have f1 := flight24 v3 (by decide)
  rw [show rFlight v3 = 1 by decide +kernel] at f1
  have f2 := flight24 v4 (by decide)
  rw [show rFlight v4 = 0 by decide +kernel] at f2
  have r1 := room26 v5 trivial trivial
  rw [show IntKind.i64.wrap (4096 - (v5.d.length : Int)) = 4094 by decide +kernel] at r1
  have c1 := chk28 v5 (by decide) (by decide)
  rw [show sChk v5 = 0 by decide +kernel] at c1
  repeat' (with_reducible first | exact True.intro | apply And.intro | (first | apply zA | apply zB | apply zC | apply zD | apply zE | apply zF | apply zG) <;> intro)
  all_goals first | exact k0 | exact k1 | exact k2 | exact k3 | exact k4 | exact k5 | exact k6 | exact k7 | exact s1 | exact s2 | exact f1 | exact f2 | exact r1 | exact c1 | rfl | omega | skip

end Go.Proofs.Ytfllhedkgeljaaa
