import Derived.Test.YtfllhedkgeljaaaC06S14
import Derived.Test.YtfllhedkgeljaaaProg
import Derived.KernelRfl

/-
laws 11, plain: what was sent, and the state of a sending end. No program.
-/
set_option linter.unusedSimpArgs false
set_option linter.unusedVariables false
namespace Go.Proofs.Ytfllhedkgeljaaa
open Sx Go.RowKit C06

structure Ck where
  f : Int
  t : Int
  s : Int
  r : Int
  l : Bool
  deriving DecidableEq
def ckD (c : Ck) : D := .agg [.int .i64 c.f, .int .i64 c.t, .int .i64 c.s, .int .i64 c.r, .bool c.l]
theorem ckD_ne {x y : Ck} (h : x ≠ y) : (x.f == y.f && (x.t == y.t && (x.s == y.s && (x.r == y.r && (x.l == y.l && true))))) = false := by
  cases hq : (x.f == y.f && (x.t == y.t && (x.s == y.s && (x.r == y.r && (x.l == y.l && true)))))
  · rfl
  · simp at hq
    obtain ⟨h1, h2, h3, h4, h5⟩ := hq
    exact absurd (by cases x; cases y; simp_all) h
structure Sq where
  b : Int
  d : List UInt8
  n : Int
  fl : List Ck
  cm : List Iv
  deriving DecidableEq
def sqD (s : Sq) : D := .agg [.int .i64 s.b, .str s.d, .int .i64 s.n, .sl (s.fl.map ckD), .sl (s.cm.map ivD)]
def ckI (c : Ck) : Iv := (c.f, c.t)
def cSz (c : Ck) : Int := IntKind.i64.wrap (c.t - c.f)
def tickB (n : Int) : Bool := decide (0 ≤ n) && decide (n ≤ 1099511627776)
def lastP : Int := 1099511623680
def camB (s : Sq) (x : Iv) : Bool := !(decide (x.1 ≤ s.b) || decide (x.2 > s.n))
def cameB (s : Sq) : Bool := decide (iChk s.cm = 0) && s.cm.all (camB s)
/-- Not where it should be. -/
def offB (s : Sq) (c : Ck) (at_ : Int) : Bool := decide (c.f < at_ ∨ c.t > s.n ∨ c.f ≥ c.t ∨ cSz c > 48)
def timB (c : Ck) : Bool := tickB c.s && (decide (c.r > 0) && decide (c.r ≤ 1073741824))
def fitsB (s : Sq) (c : Ck) (at_ : Int) : Bool := !offB s c at_ && (timB c && decide (rGaps s.cm (ckI c) = [ckI c]))
def flB (s : Sq) : List Ck → Int → Bool
  | [], _ => true
  | c :: l, a => fitsB s c a && flB s l c.t
def rngB (s : Sq) : Bool := decide (s.b < 0 ∨ s.b > lastP ∨ s.n < s.b ∨ IntKind.i64.wrap (s.n - s.b) > (s.d.length : Int))
def sChk (s : Sq) : Int := if rngB s = true then 8 else if (s.d.length : Int) > 4096 then 5 else if cameB s = false then 4 else if flB s s.fl s.b = false then 10 else 0
theorem wrap_in {x : Int} (h1 : -9223372036854775808 ≤ x) (h2 : x < 9223372036854775808) : IntKind.i64.wrap x = x := by rw [IntKind.wrap_i64]; omega
theorem sChk_ok {s : Sq} (hn : s.n < 9223372036854775808) (h : sChk s = 0) : (0 ≤ s.b ∧ s.b ≤ lastP ∧ s.b ≤ s.n ∧ s.n - s.b ≤ s.d.length) ∧ s.d.length ≤ 4096 ∧ cameB s = true ∧ flB s s.fl s.b = true := by
  unfold sChk at h
  split at h
  · cases h
  · next h1 =>
    split at h
    · cases h
    · next h2 =>
      split at h
      · cases h
      · next h3 =>
        split at h
        · cases h
        · next h4 =>
          have h5 : rngB s = false := by cases g : rngB s; rfl; exact absurd g h1
          have h6 := of_decide_eq_false h5
          by_cases a : s.b < 0
          · exact absurd (.inl a) h6
          by_cases b : s.b > lastP
          · exact absurd (.inr (.inl b)) h6
          by_cases c : s.n < s.b
          · exact absurd (.inr (.inr (.inl c))) h6
          have hw : IntKind.i64.wrap (s.n - s.b) = s.n - s.b := wrap_in (by omega) (by omega)
          by_cases d : IntKind.i64.wrap (s.n - s.b) > (s.d.length : Int)
          · exact absurd (.inr (.inr (.inr d))) h6
          rw [hw] at d
          exact ⟨⟨by omega, by omega, by omega, by omega⟩, by omega, by cases g : cameB s; exact absurd g h3; rfl, by cases g : flB s s.fl s.b; exact absurd g h4; rfl⟩
end Go.Proofs.Ytfllhedkgeljaaa

/-
laws 11: small ones of the sending end; the library's functions on chunks.
-/
set_option linter.unusedSimpArgs false
set_option linter.unusedVariables false
namespace Go.Proofs.Ytfllhedkgeljaaa
open Sx Go.RowKit C06

def gAns (a : AV) : List D → Option (AV × List Ob) := fun _ => some (a, [])
def gYes : List D → Option (AV × List Ob) := fun _ => some (.d (.bool true), [])
def gId : List D → Option (AV × List Ob) := fun | [d] => some (.d d, []) | _ => none

theorem ckD_sz (l : List Ck) : ∀ e ∈ l.map ckD, e.cells.length = 5 := by
  intro e he
  obtain ⟨x, -, rfl⟩ := List.mem_map.1 he
  rfl
set_option maxRecDepth 100000 in
set_option maxHeartbeats 1000000 in
theorem ckD_cloneP (l : List Ck) (hl : l.length < 1073741824) (hne : l.map ckD ≠ []) : FnOK Try.prog 70 ([.d (.sl (l.map ckD))]) ([]) (.own 0 5) ([.row 5 (l.map ckD)]) := by
  refine fnOK_wp (p := (D.bool false = D.bool false) ∧ ((List.map ckD l ≠ []) ∧ (((0 + (List.map ckD l).length) * 40 ≤ 140737488355328) ∧ ((∀ (e : D), e ∈ List.map ckD l → e.cells.length = 5) ∧ ((AV.own 1056 5 = AV.own 1056 5) ∧ ((Ob.row 5 ([] ++ List.map ckD l) = Ob.row 5 (List.map ckD l)) ∧ (True))))))) (h := {H := [(1, [(1, .val (.bool false))])]}) (subs := []) (ws := []) (ρ := []) (by kernel_rfl) ?_
  repeat' (with_reducible first | exact True.intro | apply And.intro | (first | apply zA | apply zB | apply zC | apply zD | apply zE | apply zF | apply zG) <;> intro)
  all_goals first | exact hne | rfl | (simp; omega) | exact ckD_sz _ | skip

set_option maxRecDepth 100000 in
set_option maxHeartbeats 1000000 in
theorem ckD_cloneZ (a : Option Addr) (c : Nat) : FnOK Try.prog 70 ([.raw (.slice a 0 c)]) ([]) (.own 0 5) ([.row 5 []]) := by
  refine fnOK_wp (p := condP (a.isNone) ((AV.own 900 5 = AV.own 900 5) ∧ ((Ob.row 5 [] = Ob.row 5 []) ∧ (True))) ((0 ≤ 140737488355328) ∧ ((∀ (e : D), e ∈ [] → e.cells.length = 5) ∧ ((AV.own 1056 5 = AV.own 1056 5) ∧ ((Ob.row 5 [] = Ob.row 5 []) ∧ (True)))))) (h := {}) (subs := []) (ws := []) (ρ := []) (by kernel_rfl) ?_
  repeat' (with_reducible first | exact True.intro | apply And.intro | (first | apply zA | apply zB | apply zC | apply zD | apply zE | apply zF | apply zG) <;> intro)
  all_goals first | rfl | (simp; done) | (intro e he; simp at he; done) | skip

theorem ckD_clone (l : List Ck) (hl : l.length < 1073741824) : FnOK Try.prog 70 [.d (.sl (l.map ckD))] [] (.own 0 5) [.row 5 (l.map ckD)] := by
  cases l with
  | nil => exact fnOK_nil fun a c => ckD_cloneZ a c
  | cons x r => exact ckD_cloneP (x :: r) hl (by simp)
set_option maxRecDepth 100000 in
set_option maxHeartbeats 1000000 in
theorem ckD_cloneQ (l : List Ck) (hl : l.length < 1073741824) (hne : l.map ckD ≠ []) : FnOK Try.prog 70 ([.own 0 5]) ([.row 5 (l.map ckD)]) (.own 1 5) ([.row 5 (l.map ckD), .row 5 (l.map ckD)]) := by
  refine fnOK_wp (p := (D.bool false = D.bool false) ∧ ((List.map ckD l ≠ []) ∧ (((0 + (List.map ckD l).length) * 40 ≤ 140737488355328) ∧ ((∀ (e : D), e ∈ List.map ckD l → e.cells.length = 5) ∧ ((AV.own 1056 5 = AV.own 1056 5) ∧ ((Ob.row 5 (List.map ckD l) = Ob.row 5 (List.map ckD l)) ∧ ((Ob.row 5 ([] ++ List.map ckD l) = Ob.row 5 (List.map ckD l)) ∧ (True)))))))) (h := {H := [(1, [(1, .val (.bool false))])]}) (subs := []) (ws := []) (ρ := []) (by kernel_rfl) ?_
  repeat' (with_reducible first | exact True.intro | apply And.intro | (first | apply zA | apply zB | apply zC | apply zD | apply zE | apply zF | apply zG) <;> intro)
  all_goals first | exact hne | rfl | (simp; omega) | exact ckD_sz _ | skip

set_option maxRecDepth 100000 in
set_option maxHeartbeats 1000000 in
theorem ckD_cloneW (a : Option Addr) (c : Nat) : FnOK Try.prog 70 ([.raw (.slice a 0 c)]) ([.row 5 []]) (.own 1 5) ([.row 5 [], .row 5 []]) := by
  refine fnOK_wp (p := condP (a.isNone) ((AV.own 901 5 = AV.own 901 5) ∧ ((Ob.row 5 [] = Ob.row 5 []) ∧ ((Ob.row 5 [] = Ob.row 5 []) ∧ (True)))) ((0 ≤ 140737488355328) ∧ ((∀ (e : D), e ∈ [] → e.cells.length = 5) ∧ ((AV.own 1056 5 = AV.own 1056 5) ∧ ((Ob.row 5 [] = Ob.row 5 []) ∧ ((Ob.row 5 [] = Ob.row 5 []) ∧ (True))))))) (h := {}) (subs := []) (ws := []) (ρ := []) (by kernel_rfl) ?_
  repeat' (with_reducible first | exact True.intro | apply And.intro | (first | apply zA | apply zB | apply zC | apply zD | apply zE | apply zF | apply zG) <;> intro)
  all_goals first | rfl | (simp; done) | (intro e he; simp at he; done) | skip

theorem ckD_cloneO (l : List Ck) (hl : l.length < 1073741824) : FnOK Try.prog 70 [.own 0 5] [.row 5 (l.map ckD)] (.own 1 5) [.row 5 (l.map ckD), .row 5 (l.map ckD)] := by
  cases l with
  | nil => exact fnOK_nilO rfl fun a c => ckD_cloneW a c
  | cons x r => exact ckD_cloneQ (x :: r) hl (by simp)


def ckD_E (a b : List Ck) (j : Nat) : St := ⟨[(0, .d (.sl (a.map ckD))), (1, .d (.sl (b.map ckD))), (13, .d (.int .i64 j)), (12, .d (.int .i64 a.length))], []⟩
def ckD_O : St := ⟨[(4, .d (.bool false))], []⟩
set_option maxRecDepth 100000 in
set_option maxHeartbeats 1000000 in
theorem ckD_er (a b : List Ck) (hl : a.length < 1073741824) (j : Nat) (x : Ck) (hx : a[j]? = some x) (hy : b[j]? = some x) : Runs Try.prog 0 (loopN Try.prog 63 0) (St.as (ckD_E a b j) 26) (.normal) (St.as (ckD_E a b (j+1)) 26) := by
  refine round_wp (p := condP (decide ((↑j : Int) < (↑a.length : Int))) (((0 : Int) ≤ (↑j : Int)) ∧ (((List.map ckD a)[(↑j : Int).toNat]? = some (D.agg [D.int .i64 x.f, D.int .i64 x.t, D.int .i64 x.s, D.int .i64 x.r, D.bool x.l])) ∧ (((0 : Int) ≤ (↑j : Int)) ∧ (((List.map ckD b)[(↑j : Int).toNat]? = some (D.agg [D.int .i64 x.f, D.int .i64 x.t, D.int .i64 x.s, D.int .i64 x.r, D.bool x.l])) ∧ (((D.bool !(x.f == x.f && (x.t == x.t && (x.s == x.s && (x.r == x.r && (x.l == x.l && true)))))) = D.bool false) ∧ ((AV.d (.sl (List.map ckD a)) = AV.d (.sl (List.map ckD a))) ∧ ((AV.d (.sl (List.map ckD b)) = AV.d (.sl (List.map ckD b))) ∧ ((AV.d (.int .i64 (IntKind.i64.wrap ((↑j : Int) + (1 : Int)))) = AV.d (.int .i64 (↑(j + 1) : Int))) ∧ ((AV.d (.int .i64 (↑a.length : Int)) = AV.d (.int .i64 (↑a.length : Int))) ∧ (True)))))))))) (False)) (h := {els := [(16, .el (ckD x)), (20, .el (ckD x))], H := [(6, [(8, .val (.bool false))])]}) (subs := []) (ws := []) (ρ := []) (by kernel_rfl) ?_
  have hj := get_lt hx
  have hj2 := get_lt hy
  have hi := inc_i64 (j := j) (by omega)
  simp only [List.length_map, hi]
  refine condP_t (by rw [decide_eq_true_eq]; omega) ?_
  repeat' (with_reducible first | exact True.intro | apply And.intro | (first | apply zA | apply zB | apply zC | apply zD | apply zE | apply zF | apply zG) <;> intro)
  all_goals first | exact el_map hx rfl | exact el_map hy rfl | rfl | omega | (refine congrArg D.bool ?_; simp; done) | (exfalso; simp_all; done) | (refine congrArg D.bool ?_; rw [ckD_ne hne]; rfl) | (exfalso; have hq := ckD_ne hne; simp_all; done) | skip

set_option maxRecDepth 100000 in
set_option maxHeartbeats 1000000 in
theorem ckD_ee (a b : List Ck) (hl : a.length < 1073741824) (j : Nat) (x y : Ck) (hx : a[j]? = some x) (hy : b[j]? = some y) (hne : x ≠ y) : Runs Try.prog 0 (loopN Try.prog 63 0) (St.as (ckD_E a b j) 26) (.ret) (St.as (ckD_O) 26) := by
  refine round_wp (p := condP (decide ((↑j : Int) < (↑a.length : Int))) (((0 : Int) ≤ (↑j : Int)) ∧ (((List.map ckD a)[(↑j : Int).toNat]? = some (D.agg [D.int .i64 x.f, D.int .i64 x.t, D.int .i64 x.s, D.int .i64 x.r, D.bool x.l])) ∧ (((0 : Int) ≤ (↑j : Int)) ∧ (((List.map ckD b)[(↑j : Int).toNat]? = some (D.agg [D.int .i64 y.f, D.int .i64 y.t, D.int .i64 y.s, D.int .i64 y.r, D.bool y.l])) ∧ (((D.bool !(x.f == y.f && (x.t == y.t && (x.s == y.s && (x.r == y.r && (x.l == y.l && true)))))) = D.bool true) ∧ ((AV.d (.bool false) = AV.d (.bool false)) ∧ (True))))))) (False)) (h := {els := [(16, .el (ckD x)), (20, .el (ckD y))], H := [(6, [(8, .val (.bool true))])]}) (subs := []) (ws := []) (ρ := []) (by kernel_rfl) ?_
  have hj := get_lt hx
  have hj2 := get_lt hy
  have hi := inc_i64 (j := j) (by omega)
  simp only [List.length_map, hi]
  refine condP_t (by rw [decide_eq_true_eq]; omega) ?_
  repeat' (with_reducible first | exact True.intro | apply And.intro | (first | apply zA | apply zB | apply zC | apply zD | apply zE | apply zF | apply zG) <;> intro)
  all_goals first | exact el_map hx rfl | exact el_map hy rfl | rfl | omega | (refine congrArg D.bool ?_; simp; done) | (exfalso; simp_all; done) | (refine congrArg D.bool ?_; rw [ckD_ne hne]; rfl) | (exfalso; have hq := ckD_ne hne; simp_all; done) | skip

set_option maxRecDepth 100000 in
set_option maxHeartbeats 1000000 in
theorem ckD_eq' (a b : List Ck) : Runs Try.prog 0 (loopN Try.prog 63 0) (St.as (ckD_E a b a.length) 26) (.exit 0) (St.as (ckD_E a b a.length) 26) := by
  refine round_wp (p := condP (decide ((↑a.length : Int) < (↑a.length : Int))) (False) ((AV.d (.sl (List.map ckD a)) = AV.d (.sl (List.map ckD a))) ∧ ((AV.d (.sl (List.map ckD b)) = AV.d (.sl (List.map ckD b))) ∧ ((AV.d (.int .i64 (↑a.length : Int)) = AV.d (.int .i64 (↑a.length : Int))) ∧ ((AV.d (.int .i64 (↑a.length : Int)) = AV.d (.int .i64 (↑a.length : Int))) ∧ (True)))))) (h := {}) (subs := []) (ws := []) (ρ := []) (by kernel_rfl) ?_
  repeat' (with_reducible first | exact True.intro | apply And.intro | (first | apply zA | apply zB | apply zC | apply zD | apply zE | apply zF | apply zG) <;> intro)
  all_goals (try simp only [List.length_map, AV.d.injEq, D.int.injEq, D.bool.injEq, D.str.injEq, D.sl.injEq, true_and, and_true, decide_eq_true_eq, decide_eq_false_iff_not, decide_eq_decide])
  all_goals (try simp only [List.length_map] at *)
  all_goals first | rfl | omega

set_option maxRecDepth 100000 in
set_option maxHeartbeats 1000000 in
theorem ckD_el (a b : List Ck) (h : a.length ≠ b.length) : FnOK Try.prog 63 ([.d (.sl (a.map ckD)), .d (.sl (b.map ckD))]) ([]) (.d (.bool false)) ([]) := by
  refine fnOK_wp (p := condP ((↑(List.map ckD a).length : Int) != (↑(List.map ckD b).length : Int)) ((AV.d (.bool false) = AV.d (.bool false)) ∧ (True)) ((AV.d (.sl (List.map ckD a)) = AV.d (.sl (List.map ckD a))) ∧ ((AV.d (.sl (List.map ckD b)) = AV.d (.sl (List.map ckD b))) ∧ ((AV.d (.int .i64 (0 : Int)) = AV.d (.int .i64 (0 : Int))) ∧ ((AV.d (.int .i64 (↑(List.map ckD a).length : Int)) = AV.d (.int .i64 (↑a.length : Int))) ∧ ((LoopsS Try.prog 0 (loopN Try.prog 63 0) (ckD_E a b 0) Exit.ret ckD_O 26) ∧ ((AV.d (.bool false) = AV.d (.bool false)) ∧ (True)))))))) (h := {}) (subs := [⟨[], [], ckD_E a b 0, .ret, ckD_O⟩]) (ws := []) (ρ := []) (by kernel_rfl) ?_
  simp only [List.length_map]
  refine condP_t (by simp; omega) ?_
  first | trivial | exact ⟨rfl, trivial⟩

set_option maxRecDepth 100000 in
set_option maxHeartbeats 1000000 in
theorem ckD_ey (a b : List Ck) (h : a.length = b.length) (hL : Loops Try.prog 0 (loopN Try.prog 63 0) ((ckD_E a b 0).as 26) (.exit 0) ((ckD_E a b a.length).as 26)) : FnOK Try.prog 63 ([.d (.sl (a.map ckD)), .d (.sl (b.map ckD))]) ([]) (.d (.bool true)) ([]) := by
  refine fnOK_wp (p := (D.bool ((↑(List.map ckD a).length : Int) != (↑(List.map ckD b).length : Int)) = D.bool false) ∧ ((AV.d (.sl (List.map ckD a)) = AV.d (.sl (List.map ckD a))) ∧ ((AV.d (.sl (List.map ckD b)) = AV.d (.sl (List.map ckD b))) ∧ ((AV.d (.int .i64 (0 : Int)) = AV.d (.int .i64 (0 : Int))) ∧ ((AV.d (.int .i64 (↑(List.map ckD a).length : Int)) = AV.d (.int .i64 (↑a.length : Int))) ∧ ((LoopsS Try.prog 0 (loopN Try.prog 63 0) (ckD_E a b 0) (Exit.exit 0) (ckD_E a b a.length) 26) ∧ ((AV.d (.bool true) = AV.d (.bool true)) ∧ (True)))))))) (h := {H := [(1, [(4, .val (.bool false))])]}) (subs := [⟨[], [], ckD_E a b 0, .exit 0, ckD_E a b a.length⟩]) (ws := []) (ρ := []) (by kernel_rfl) ?_
  simp only [List.length_map]
  repeat' (with_reducible first | exact True.intro | apply And.intro | (first | apply zA | apply zB | apply zC | apply zD | apply zE | apply zF | apply zG) <;> intro)
  all_goals first | exact hL | rfl | exact dno (by omega) | (exfalso; omega) | (refine congrArg D.bool ?_; simp; omega) | skip

set_option maxRecDepth 100000 in
set_option maxHeartbeats 1000000 in
theorem ckD_en (a b : List Ck) (h : a.length = b.length) (hL : Loops Try.prog 0 (loopN Try.prog 63 0) ((ckD_E a b 0).as 26) .ret (ckD_O.as 26)) : FnOK Try.prog 63 ([.d (.sl (a.map ckD)), .d (.sl (b.map ckD))]) ([]) (.d (.bool false)) ([]) := by
  refine fnOK_wp (p := (D.bool ((↑(List.map ckD a).length : Int) != (↑(List.map ckD b).length : Int)) = D.bool false) ∧ ((AV.d (.sl (List.map ckD a)) = AV.d (.sl (List.map ckD a))) ∧ ((AV.d (.sl (List.map ckD b)) = AV.d (.sl (List.map ckD b))) ∧ ((AV.d (.int .i64 (0 : Int)) = AV.d (.int .i64 (0 : Int))) ∧ ((AV.d (.int .i64 (↑(List.map ckD a).length : Int)) = AV.d (.int .i64 (↑a.length : Int))) ∧ ((LoopsS Try.prog 0 (loopN Try.prog 63 0) (ckD_E a b 0) Exit.ret ckD_O 26) ∧ ((AV.d (.bool false) = AV.d (.bool false)) ∧ (True)))))))) (h := {H := [(1, [(4, .val (.bool false))])]}) (subs := [⟨[], [], ckD_E a b 0, .ret, ckD_O⟩]) (ws := []) (ρ := []) (by kernel_rfl) ?_
  simp only [List.length_map]
  repeat' (with_reducible first | exact True.intro | apply And.intro | (first | apply zA | apply zB | apply zC | apply zD | apply zE | apply zF | apply zG) <;> intro)
  all_goals first | exact hL | rfl | exact dno (by omega) | (exfalso; omega) | (refine congrArg D.bool ?_; simp; omega) | skip

theorem ckD_equal (a b : List Ck) (hl : a.length < 1073741824) : FnOK Try.prog 63 [.d (.sl (a.map ckD)), .d (.sl (b.map ckD))] [] (.d (.bool (decide (a = b)))) [] := by
  by_cases h : a.length = b.length
  · rcases diff_or a b h with e | ⟨m, x, y, h1, h2, h3, h4⟩
    · rw [decide_eq_true e]
      refine ckD_ey a b h (loops_n (I := fun j => (ckD_E a b j).as 26) (by simp) a.length 0 (by omega) (fun j _ hj => ckD_er a b hl j a[j] (get_of hj) (by rw [← e]; exact get_of hj)) (ckD_eq' a b))
    · have hm := get_lt h1
      rw [decide_eq_false (by rintro rfl; rw [h1] at h2; cases h2; exact h3 rfl)]
      exact ckD_en a b h (loops_n (I := fun j => (ckD_E a b j).as 26) (by simp) m 0 (by omega) (fun j _ hj => ckD_er a b hl j (a[j]'(by omega)) (get_of _) (h4 j _ hj (get_of _))) (ckD_ee a b hl m x y h1 h2 h3))
  · rw [decide_eq_false (by rintro rfl; exact h rfl)]; exact ckD_el a b h


def ckD_IA (g : Nat) (l : List Ck) (j : Nat) : St := ⟨[(0, .d (.sl (l.map ckD))), (1, .fn g []), (7, .d (.int .i64 l.length)), (8, .d (.int .i64 j))], []⟩
def ckD_IOA (g : Nat) (m : Int) : St := ⟨[(4, .d (.int .i64 m))], []⟩
set_option maxRecDepth 100000 in
set_option maxHeartbeats 1000000 in
theorem ckD_irA (g : Nat) (l : List Ck) (hl : l.length < 1073741824) (j : Nat) (x : Ck) (hn : l[j]? = some x) (hx : FnOK Try.prog g [.d (ckD x)] [] (.d (.bool false)) []) : Runs Try.prog 0 (loopN Try.prog 35 0) (St.as (ckD_IA g l j) 19) (.normal) (St.as (ckD_IA g l (j+1)) 19) := by
  refine round_wp (p := condP (decide ((↑j : Int) < (↑l.length : Int))) (((0 : Int) ≤ (↑j : Int)) ∧ (((List.map ckD l)[(↑j : Int).toNat]? = some (D.agg [D.int .i64 x.f, D.int .i64 x.t, D.int .i64 x.s, D.int .i64 x.r, D.bool x.l])) ∧ ((FnOK Try.prog g [AV.d (.agg [D.int .i64 x.f, D.int .i64 x.t, D.int .i64 x.s, D.int .i64 x.r, D.bool x.l])] [] (AV.d (.bool false)) []) ∧ ((AV.d (.sl (List.map ckD l)) = AV.d (.sl (List.map ckD l))) ∧ ((AV.fn g [] = AV.fn g []) ∧ ((AV.d (.int .i64 (↑l.length : Int)) = AV.d (.int .i64 (↑l.length : Int))) ∧ ((AV.d (.int .i64 (IntKind.i64.wrap ((↑j : Int) + (1 : Int)))) = AV.d (.int .i64 (↑(j + 1) : Int))) ∧ (True)))))))) (False)) (h := {els := [(12, .el (ckD x)), (11, .call [] (.d (.bool false)) [])]}) (subs := []) (ws := []) (ρ := []) (by kernel_rfl) ?_
  have hj := get_lt hn
  have hi := inc_i64 (j := j) (by omega)
  try simp only [hi]
  refine condP_t (by rw [decide_eq_true_eq]; omega) ?_
  repeat' (with_reducible first | exact True.intro | apply And.intro | (first | apply zA | apply zB | apply zC | apply zD | apply zE | apply zF | apply zG) <;> intro)
  all_goals first | exact hx | exact el_map hn rfl | rfl | omega | skip

set_option maxRecDepth 100000 in
set_option maxHeartbeats 1000000 in
theorem ckD_ieA (g : Nat) (l : List Ck) (hl : l.length < 1073741824) (j : Nat) (x : Ck) (hn : l[j]? = some x) (hx : FnOK Try.prog g [.d (ckD x)] [] (.d (.bool true)) []) : Runs Try.prog 0 (loopN Try.prog 35 0) (St.as (ckD_IA g l j) 19) (.ret) (St.as (ckD_IOA g j) 19) := by
  refine round_wp (p := condP (decide ((↑j : Int) < (↑l.length : Int))) (((0 : Int) ≤ (↑j : Int)) ∧ (((List.map ckD l)[(↑j : Int).toNat]? = some (D.agg [D.int .i64 x.f, D.int .i64 x.t, D.int .i64 x.s, D.int .i64 x.r, D.bool x.l])) ∧ ((FnOK Try.prog g [AV.d (.agg [D.int .i64 x.f, D.int .i64 x.t, D.int .i64 x.s, D.int .i64 x.r, D.bool x.l])] [] (AV.d (.bool true)) []) ∧ ((AV.d (.int .i64 (↑j : Int)) = AV.d (.int .i64 (↑j : Int))) ∧ (True))))) (False)) (h := {els := [(12, .el (ckD x)), (11, .call [] (.d (.bool true)) [])]}) (subs := []) (ws := []) (ρ := []) (by kernel_rfl) ?_
  have hj := get_lt hn
  have hi := inc_i64 (j := j) (by omega)
  try simp only [hi]
  refine condP_t (by rw [decide_eq_true_eq]; omega) ?_
  repeat' (with_reducible first | exact True.intro | apply And.intro | (first | apply zA | apply zB | apply zC | apply zD | apply zE | apply zF | apply zG) <;> intro)
  all_goals first | exact hx | exact el_map hn rfl | rfl | omega | skip

set_option maxRecDepth 100000 in
set_option maxHeartbeats 1000000 in
theorem ckD_iqA (g : Nat) (l : List Ck) : Runs Try.prog 0 (loopN Try.prog 35 0) (St.as (ckD_IA g l l.length) 19) (.exit 0) (St.as (ckD_IA g l l.length) 19) := by
  refine round_wp (p := condP (decide ((↑l.length : Int) < (↑l.length : Int))) (False) ((AV.d (.sl (List.map ckD l)) = AV.d (.sl (List.map ckD l))) ∧ ((AV.fn g [] = AV.fn g []) ∧ ((AV.d (.int .i64 (↑l.length : Int)) = AV.d (.int .i64 (↑l.length : Int))) ∧ ((AV.d (.int .i64 (↑l.length : Int)) = AV.d (.int .i64 (↑l.length : Int))) ∧ (True)))))) (h := {}) (subs := []) (ws := []) (ρ := []) (by kernel_rfl) ?_
  repeat' (with_reducible first | exact True.intro | apply And.intro | (first | apply zA | apply zB | apply zC | apply zD | apply zE | apply zF | apply zG) <;> intro)
  all_goals (try simp only [List.length_map, AV.d.injEq, D.int.injEq, D.bool.injEq, D.str.injEq, D.sl.injEq, true_and, and_true, decide_eq_true_eq, decide_eq_false_iff_not, decide_eq_decide])
  all_goals (try simp only [List.length_map] at *)
  all_goals first | rfl | omega

set_option maxRecDepth 100000 in
set_option maxHeartbeats 1000000 in
theorem ckD_inA (g : Nat) (l : List Ck) (hL : Loops Try.prog 0 (loopN Try.prog 35 0) ((ckD_IA g l 0).as 19) (.exit 0) ((ckD_IA g l l.length).as 19)) : FnOK Try.prog 35 ([.d (.sl (l.map ckD)), .fn g []]) ([]) (.d (.int .i64 (-1))) ([]) := by
  refine fnOK_wp (p := (AV.d (.sl (List.map ckD l)) = AV.d (.sl (List.map ckD l))) ∧ ((AV.fn g [] = AV.fn g []) ∧ ((AV.d (.int .i64 (↑(List.map ckD l).length : Int)) = AV.d (.int .i64 (↑l.length : Int))) ∧ ((AV.d (.int .i64 (0 : Int)) = AV.d (.int .i64 (0 : Int))) ∧ ((LoopsS Try.prog 0 (loopN Try.prog 35 0) (ckD_IA g l 0) (Exit.exit 0) (ckD_IA g l l.length) 19) ∧ ((AV.d (.int .i64 (-1 : Int)) = AV.d (.int .i64 (-1 : Int))) ∧ (True))))))) (h := {}) (subs := [⟨[], [], ckD_IA g l 0, .exit 0, ckD_IA g l l.length⟩]) (ws := []) (ρ := []) (by kernel_rfl) ?_
  simp only [List.length_map]
  repeat' (with_reducible first | exact True.intro | apply And.intro | (first | apply zA | apply zB | apply zC | apply zD | apply zE | apply zF | apply zG) <;> intro)
  all_goals first | exact hL | rfl | skip

set_option maxRecDepth 100000 in
set_option maxHeartbeats 1000000 in
theorem ckD_iyA (g : Nat) (l : List Ck) (m : Nat) (hL : Loops Try.prog 0 (loopN Try.prog 35 0) ((ckD_IA g l 0).as 19) .ret ((ckD_IOA g m).as 19)) : FnOK Try.prog 35 ([.d (.sl (l.map ckD)), .fn g []]) ([]) (.d (.int .i64 m)) ([]) := by
  refine fnOK_wp (p := (AV.d (.sl (List.map ckD l)) = AV.d (.sl (List.map ckD l))) ∧ ((AV.fn g [] = AV.fn g []) ∧ ((AV.d (.int .i64 (↑(List.map ckD l).length : Int)) = AV.d (.int .i64 (↑l.length : Int))) ∧ ((AV.d (.int .i64 (0 : Int)) = AV.d (.int .i64 (0 : Int))) ∧ ((LoopsS Try.prog 0 (loopN Try.prog 35 0) (ckD_IA g l 0) Exit.ret (ckD_IOA g (↑m : Int)) 19) ∧ ((AV.d (.int .i64 (↑m : Int)) = AV.d (.int .i64 (↑m : Int))) ∧ (True))))))) (h := {}) (subs := [⟨[], [], ckD_IA g l 0, .ret, ckD_IOA g m⟩]) (ws := []) (ρ := []) (by kernel_rfl) ?_
  simp only [List.length_map]
  repeat' (with_reducible first | exact True.intro | apply And.intro | (first | apply zA | apply zB | apply zC | apply zD | apply zE | apply zF | apply zG) <;> intro)
  all_goals first | exact hL | rfl | skip

theorem ckD_firstA (g : Nat) (F : Ck → Bool) (l : List Ck) (hl : l.length < 1073741824) (hF : ∀ x ∈ l, FnOK Try.prog g [.d (ckD x)] [] (.d (.bool (F x))) []) :
    ((∀ x ∈ l, F x = false) ∧ FnOK Try.prog 35 [.d (.sl (l.map ckD)), .fn g []] [] (.d (.int .i64 (-1))) []) ∨ ∃ (m : Nat) (x : Ck), l[m]? = some x ∧ F x = true ∧ (∀ (j : Nat) (y : Ck), j < m → l[j]? = some y → F y = false) ∧ FnOK Try.prog 35 [.d (.sl (l.map ckD)), .fn g []] [] (.d (.int .i64 m)) [] := by
  rcases all_or (fun x => F x = false) l with h | ⟨m, x, h1, h2, h3⟩
  · exact .inl ⟨h, ckD_inA g l (loops_n (I := fun j => (ckD_IA g l j).as 19) (by simp) l.length 0 (by omega) (fun j _ hj => ckD_irA g l hl j l[j] (get_of hj) (by have := hF _ (List.getElem_mem hj); rw [h _ (List.getElem_mem hj)] at this; exact this)) (ckD_iqA g l))⟩
  · have hm := get_lt h1
    have h2 : F x = true := by cases hw : F x; exact absurd hw h2; rfl
    exact .inr ⟨m, x, h1, h2, h3, ckD_iyA g l m (loops_n (I := fun j => (ckD_IA g l j).as 19) (by simp) m 0 (by omega) (fun j _ hj => ckD_irA g l hl j (l[j]'(by omega)) (get_of _) (by have := hF (l[j]'(by omega)) (List.getElem_mem _); rw [h3 j _ hj (get_of _)] at this; exact this)) (ckD_ieA g l hl m x h1 (by have := hF _ (get_mem h1); rw [h2] at this; exact this)))⟩


set_option maxRecDepth 100000 in
set_option maxHeartbeats 1000000 in
theorem size37 (c : Ck) (k1 k2 : True) : FnOK Try.prog 37 ([.d (ckD c)]) ([]) (.d (.int .i64 (cSz c))) ([]) := by
  refine fnOK_wp (p := (AV.d (.int .i64 (IntKind.i64.wrap (c.t - c.f))) = AV.d (.int .i64 (cSz c))) ∧ (True)) (h := {}) (subs := []) (ws := []) (ρ := []) (by kernel_rfl) ?_
  repeat' (with_reducible first | exact True.intro | apply And.intro | (first | apply zA | apply zB | apply zC | apply zD | apply zE | apply zF | apply zG) <;> intro)
  all_goals first | exact k1 | exact k2 | rfl | omega | exact dyes ‹_› | exact dno ‹_› | skip

set_option maxRecDepth 100000 in
set_option maxHeartbeats 1000000 in
theorem ival74 (c : Ck) (k1 k2 : True) : FnOK Try.prog 74 ([.d (ckD c)]) ([]) (.d (ivD (ckI c))) ([]) := by
  refine fnOK_wp (p := (AV.d (.agg [D.int .i64 c.f, D.int .i64 c.t]) = AV.d (.agg [D.int .i64 (ckI c).fst, D.int .i64 (ckI c).snd])) ∧ (True)) (h := {}) (subs := []) (ws := []) (ρ := []) (by kernel_rfl) ?_
  repeat' (with_reducible first | exact True.intro | apply And.intro | (first | apply zA | apply zB | apply zC | apply zD | apply zE | apply zF | apply zG) <;> intro)
  all_goals first | exact k1 | exact k2 | rfl | omega | exact dyes ‹_› | exact dno ‹_› | skip

set_option maxRecDepth 100000 in
set_option maxHeartbeats 1000000 in
theorem tick34 (n : Int) (k1 k2 : True) : FnOK Try.prog 34 ([.d (.int .i64 n)]) ([]) (.d (.bool (tickB n))) ([]) := by
  refine fnOK_wp (p := condP (decide ((0 : Int) ≤ n)) ((D.bool (decide ((0 : Int) ≤ n)) = D.bool true) ∧ ((AV.d (.bool (decide (n ≤ (1099511627776 : Int)))) = AV.d (.bool (tickB n))) ∧ (True))) ((D.bool (decide ((0 : Int) ≤ n)) = D.bool false) ∧ ((AV.d (.bool false) = AV.d (.bool (tickB n))) ∧ (True)))) (h := {}) (subs := []) (ws := []) (ρ := []) (by kernel_rfl) ?_
  unfold tickB
  repeat' (with_reducible first | exact True.intro | apply And.intro | (first | apply zA | apply zB | apply zC | apply zD | apply zE | apply zF | apply zG) <;> intro)
  all_goals first | rfl | exact dyes ‹_› | exact dno ‹_› | (rw [decide_eq_false (p := 0 ≤ n) (by assumption)]; rfl) | (rw [decide_eq_true (p := 0 ≤ n) (by assumption)]; rfl) | skip

set_option maxRecDepth 100000 in
set_option maxHeartbeats 1000000 in
theorem room26 (s : Sq) (k1 k2 : True) : FnOK Try.prog 26 ([.d (sqD s)]) ([]) (.d (.int .i64 (IntKind.i64.wrap (4096 - (s.d.length : Int))))) ([]) := by
  refine fnOK_wp (p := (AV.d (.int .i64 (IntKind.i64.wrap ((4096 : Int) - (↑s.d.length : Int)))) = AV.d (.int .i64 (IntKind.i64.wrap ((4096 : Int) - (↑s.d.length : Int))))) ∧ (True)) (h := {}) (subs := []) (ws := []) (ρ := []) (by kernel_rfl) ?_
  repeat' (with_reducible first | exact True.intro | apply And.intro | (first | apply zA | apply zB | apply zC | apply zD | apply zE | apply zF | apply zG) <;> intro)
  all_goals first | exact k1 | exact k2 | rfl | omega | exact dyes ‹_› | exact dno ‹_› | skip

set_option maxRecDepth 100000 in
set_option maxHeartbeats 1000000 in
theorem lost36 (c : Ck) (k1 k2 : True) : FnOK Try.prog 36 ([.d (ckD c)]) ([]) (.d (.bool c.l)) ([]) := by
  refine fnOK_wp (p := (AV.d (.bool c.l) = AV.d (.bool c.l)) ∧ (True)) (h := {}) (subs := []) (ws := []) (ρ := []) (by kernel_rfl) ?_
  repeat' (with_reducible first | exact True.intro | apply And.intro | (first | apply zA | apply zB | apply zC | apply zD | apply zE | apply zF | apply zG) <;> intro)
  all_goals first | exact k1 | exact k2 | rfl | omega | exact dyes ‹_› | exact dno ‹_› | skip

set_option maxRecDepth 100000 in
set_option maxHeartbeats 1000000 in
theorem new30 (k1 k2 : True) : FnOK Try.prog 30 ([]) ([]) (.d (sqD ⟨0, [], 0, [], []⟩)) ([]) := by
  refine fnOK_wp (p := (AV.d (.agg [D.int .i64 (0 : Int), D.str [], D.int .i64 (0 : Int), D.sl [], D.sl []]) = AV.d (.agg [D.int .i64 (0 : Int), D.str [], D.int .i64 (0 : Int), D.sl [], D.sl []])) ∧ (True)) (h := {}) (subs := []) (ws := []) (ρ := []) (by kernel_rfl) ?_
  repeat' (with_reducible first | exact True.intro | apply And.intro | (first | apply zA | apply zB | apply zC | apply zD | apply zE | apply zF | apply zG) <;> intro)
  all_goals first | exact k1 | exact k2 | rfl | omega | exact dyes ‹_› | exact dno ‹_› | skip

set_option maxRecDepth 100000 in
set_option maxHeartbeats 1000000 in
theorem text39 (s : Sq) (c : Ck) (x y : Int) (hx : IntKind.i64.wrap (c.f - s.b) = x) (hy : IntKind.i64.wrap (c.t - s.b) = y) (h0 : 0 ≤ x) (h1 : x ≤ y) (h2 : y ≤ s.d.length) : FnOK Try.prog 39 ([.d (sqD s), .d (ckD c)]) ([]) (.d (.str ((s.d.drop x.toNat).take (y.toNat - x.toNat)))) ([]) := by
  refine fnOK_wp (p := (D.int .i64 (IntKind.i64.wrap (c.f - s.b)) = D.int .i64 x) ∧ ((D.int .i64 (IntKind.i64.wrap (c.t - s.b)) = D.int .i64 y) ∧ (((0 : Int) ≤ x ∧ x ≤ y ∧ y ≤ (↑s.d.length : Int)) ∧ ((AV.d (.str (List.drop x.toNat (List.take y.toNat s.d))) = AV.d (.str (List.take (y.toNat - x.toNat) (List.drop x.toNat s.d)))) ∧ (True))))) (h := {H := [(1, [(6, .val (.int .i64 x)), (11, .val (.int .i64 y))])]}) (subs := []) (ws := []) (ρ := []) (by kernel_rfl) ?_
  repeat' (with_reducible first | exact True.intro | apply And.intro | (first | apply zA | apply zB | apply zC | apply zD | apply zE | apply zF | apply zG) <;> intro)
  all_goals first | exact congrArg (D.int .i64) hx | exact congrArg (D.int .i64) hy | rfl | omega | (refine congrArg (fun z => AV.d (.str z)) ?_; rw [List.drop_take]; done) | skip

end Go.Proofs.Ytfllhedkgeljaaa

/-
laws 11: whether a state may be; how much is under way; a state's own lists; writing.
-/
set_option linter.unusedSimpArgs false
set_option linter.unusedVariables false
namespace Go.Proofs.Ytfllhedkgeljaaa
open Sx Go.RowKit C06

def sqB (s : Sq) : Ob := .box [.d (.int .i64 s.b), .d (.str s.d), .d (.int .i64 s.n), .d (.sl (s.fl.map ckD)), .d (.sl (s.cm.map ivD))]
/-! ### The places that came -/
def I61 (s : Sq) (j : Nat) : St := ⟨[(1, .ptr 0 0), (10, .d (.sl (s.cm.map ivD))), (11, .d (.int .i64 s.cm.length)), (12, .d (.int .i64 j))], [(0, sqB s)]⟩
set_option maxRecDepth 100000 in
set_option maxHeartbeats 1000000 in
theorem r61 (s : Sq) (hl : s.cm.length < 1000000) (j : Nat) (x : Iv) (hn : s.cm[j]? = some x) (h1 : ¬x.1 ≤ s.b) (h2 : ¬x.2 > s.n) : Runs Try.prog 0 (loopN Try.prog 61 0) (St.as (I61 s j) 29) (.normal) (St.as (I61 s (j+1)) 29) := by
  refine round_wp (p := condP (decide ((↑j : Int) < (↑s.cm.length : Int))) (((0 : Int) ≤ (↑j : Int)) ∧ (((List.map ivD s.cm)[(↑j : Int).toNat]? = some (D.agg [D.int .i64 x.fst, D.int .i64 x.snd])) ∧ ((D.bool (decide (x.fst ≤ s.b)) = D.bool false) ∧ ((D.bool (decide (x.snd > s.n)) = D.bool false) ∧ ((AV.ptr 0 0 = AV.ptr 0 0) ∧ ((AV.d (.sl (List.map ivD s.cm)) = AV.d (.sl (List.map ivD s.cm))) ∧ ((AV.d (.int .i64 (↑s.cm.length : Int)) = AV.d (.int .i64 (↑s.cm.length : Int))) ∧ ((AV.d (.int .i64 (IntKind.i64.wrap ((↑j : Int) + (1 : Int)))) = AV.d (.int .i64 (↑(j + 1) : Int))) ∧ ((Ob.box [AV.d (.int .i64 s.b), AV.d (.str s.d), AV.d (.int .i64 s.n), AV.d (.sl (List.map ckD s.fl)), AV.d (.sl (List.map ivD s.cm))] = Ob.box [AV.d (.int .i64 s.b), AV.d (.str s.d), AV.d (.int .i64 s.n), AV.d (.sl (List.map ckD s.fl)), AV.d (.sl (List.map ivD s.cm))]) ∧ (True)))))))))) (False)) (h := {els := [(10, .el (ivD x))], H := [(6, [(5, .val (.bool false)), (10, .val (.bool false))])]}) (subs := []) (ws := []) (ρ := []) (by kernel_rfl) ?_
  have hj := get_lt hn
  have hi := inc_i64 (j := j) (by omega)
  try simp only [hi]
  refine condP_t (by rw [decide_eq_true_eq]; omega) ?_
  repeat' (with_reducible first | exact True.intro | apply And.intro | (first | apply zA | apply zB | apply zC | apply zD | apply zE | apply zF | apply zG) <;> intro)
  all_goals first | exact el_map hn rfl | rfl | omega | exact dyes (by omega) | exact dno (by omega) | skip

set_option maxRecDepth 100000 in
set_option maxHeartbeats 1000000 in
theorem e61a (s : Sq) (hl : s.cm.length < 1000000) (j : Nat) (x : Iv) (hn : s.cm[j]? = some x) (h1 : x.1 ≤ s.b) : Runs Try.prog 0 (loopN Try.prog 61 0) (St.as (I61 s j) 29) (.ret) (St.as (⟨[(2, .d (.bool false))], []⟩) 29) := by
  refine round_wp (p := condP (decide ((↑j : Int) < (↑s.cm.length : Int))) (((0 : Int) ≤ (↑j : Int)) ∧ (((List.map ivD s.cm)[(↑j : Int).toNat]? = some (D.agg [D.int .i64 x.fst, D.int .i64 x.snd])) ∧ ((D.bool (decide (x.fst ≤ s.b)) = D.bool true) ∧ ((AV.d (.bool false) = AV.d (.bool false)) ∧ (True))))) (False)) (h := {els := [(10, .el (ivD x))], H := [(6, [(5, .val (.bool true))])]}) (subs := []) (ws := []) (ρ := []) (by kernel_rfl) ?_
  have hj := get_lt hn
  have hi := inc_i64 (j := j) (by omega)
  try simp only [hi]
  refine condP_t (by rw [decide_eq_true_eq]; omega) ?_
  repeat' (with_reducible first | exact True.intro | apply And.intro | (first | apply zA | apply zB | apply zC | apply zD | apply zE | apply zF | apply zG) <;> intro)
  all_goals first | exact el_map hn rfl | rfl | omega | exact dyes (by omega) | exact dno (by omega) | skip

set_option maxRecDepth 100000 in
set_option maxHeartbeats 1000000 in
theorem e61b (s : Sq) (hl : s.cm.length < 1000000) (j : Nat) (x : Iv) (hn : s.cm[j]? = some x) (h1 : ¬x.1 ≤ s.b) (h2 : x.2 > s.n) : Runs Try.prog 0 (loopN Try.prog 61 0) (St.as (I61 s j) 29) (.ret) (St.as (⟨[(2, .d (.bool false))], []⟩) 29) := by
  refine round_wp (p := condP (decide ((↑j : Int) < (↑s.cm.length : Int))) (((0 : Int) ≤ (↑j : Int)) ∧ (((List.map ivD s.cm)[(↑j : Int).toNat]? = some (D.agg [D.int .i64 x.fst, D.int .i64 x.snd])) ∧ ((D.bool (decide (x.fst ≤ s.b)) = D.bool false) ∧ ((D.bool (decide (x.snd > s.n)) = D.bool true) ∧ ((AV.d (.bool false) = AV.d (.bool false)) ∧ (True)))))) (False)) (h := {els := [(10, .el (ivD x))], H := [(6, [(5, .val (.bool false)), (10, .val (.bool true))])]}) (subs := []) (ws := []) (ρ := []) (by kernel_rfl) ?_
  have hj := get_lt hn
  have hi := inc_i64 (j := j) (by omega)
  try simp only [hi]
  refine condP_t (by rw [decide_eq_true_eq]; omega) ?_
  repeat' (with_reducible first | exact True.intro | apply And.intro | (first | apply zA | apply zB | apply zC | apply zD | apply zE | apply zF | apply zG) <;> intro)
  all_goals first | exact el_map hn rfl | rfl | omega | exact dyes (by omega) | exact dno (by omega) | skip

set_option maxRecDepth 100000 in
set_option maxHeartbeats 1000000 in
theorem q61 (s : Sq) : Runs Try.prog 0 (loopN Try.prog 61 0) (St.as (I61 s s.cm.length) 29) (.exit 0) (St.as (I61 s s.cm.length) 29) := by
  refine round_wp (p := condP (decide ((↑s.cm.length : Int) < (↑s.cm.length : Int))) (False) ((AV.ptr 0 0 = AV.ptr 0 0) ∧ ((AV.d (.sl (List.map ivD s.cm)) = AV.d (.sl (List.map ivD s.cm))) ∧ ((AV.d (.int .i64 (↑s.cm.length : Int)) = AV.d (.int .i64 (↑s.cm.length : Int))) ∧ ((AV.d (.int .i64 (↑s.cm.length : Int)) = AV.d (.int .i64 (↑s.cm.length : Int))) ∧ ((Ob.box [AV.d (.int .i64 s.b), AV.d (.str s.d), AV.d (.int .i64 s.n), AV.d (.sl (List.map ckD s.fl)), AV.d (.sl (List.map ivD s.cm))] = Ob.box [AV.d (.int .i64 s.b), AV.d (.str s.d), AV.d (.int .i64 s.n), AV.d (.sl (List.map ckD s.fl)), AV.d (.sl (List.map ivD s.cm))]) ∧ (True))))))) (h := {}) (subs := []) (ws := []) (ρ := []) (by kernel_rfl) ?_
  repeat' (with_reducible first | exact True.intro | apply And.intro | (first | apply zA | apply zB | apply zC | apply zD | apply zE | apply zF | apply zG) <;> intro)
  all_goals first | rfl | omega

set_option maxRecDepth 100000 in
set_option maxHeartbeats 1000000 in
theorem cam61a (s : Sq) (e : Int) (he : e ≠ 0) (k1 : FnOK Try.prog 67 [.d (.sl (s.cm.map ivD))] [] (.d (.int .i64 e)) []) : FnOK Try.prog 61 ([.d (sqD s)]) ([]) (.d (.bool false)) ([]) := by
  refine fnOK_wp (p := (FnOK Try.prog 67 [AV.d (.sl (List.map ivD s.cm))] [] (AV.d (.int .i64 e)) []) ∧ ((D.bool (e != (0 : Int)) = D.bool true) ∧ ((AV.d (.bool false) = AV.d (.bool false)) ∧ (True)))) (h := {H := [(1, [(2, .call [] (.d (.int .i64 e)) []), (3, .val (.bool true))])]}) (subs := []) (ws := []) (ρ := []) (by kernel_rfl) ?_
  repeat' (with_reducible first | exact True.intro | apply And.intro | (first | apply zA | apply zB | apply zC | apply zD | apply zE | apply zF | apply zG) <;> intro)
  all_goals first | exact k1 | rfl | (refine congrArg D.bool ?_; simp [he]; done) | skip

set_option maxRecDepth 100000 in
set_option maxHeartbeats 1000000 in
theorem cam61y (s : Sq) (k1 : FnOK Try.prog 67 [.d (.sl (s.cm.map ivD))] [] (.d (.int .i64 0)) []) (hL : Loops Try.prog 0 (loopN Try.prog 61 0) ((I61 s 0).as 29) (.exit 0) ((I61 s s.cm.length).as 29)) : FnOK Try.prog 61 ([.d (sqD s)]) ([]) (.d (.bool true)) ([]) := by
  refine fnOK_wp (p := (FnOK Try.prog 67 [AV.d (.sl (List.map ivD s.cm))] [] (AV.d (.int .i64 (0 : Int))) []) ∧ ((D.bool false = D.bool false) ∧ ((AV.ptr 1008 0 = AV.ptr 1008 0) ∧ ((AV.d (.sl (List.map ivD s.cm)) = AV.d (.sl (List.map ivD s.cm))) ∧ ((AV.d (.int .i64 (↑(List.map ivD s.cm).length : Int)) = AV.d (.int .i64 (↑s.cm.length : Int))) ∧ ((AV.d (.int .i64 (0 : Int)) = AV.d (.int .i64 (0 : Int))) ∧ ((Ob.box [AV.d (.int .i64 s.b), AV.d (.str s.d), AV.d (.int .i64 s.n), AV.d (.sl (List.map ckD s.fl)), AV.d (.sl (List.map ivD s.cm))] = Ob.box [AV.d (.int .i64 s.b), AV.d (.str s.d), AV.d (.int .i64 s.n), AV.d (.sl (List.map ckD s.fl)), AV.d (.sl (List.map ivD s.cm))]) ∧ ((LoopsS Try.prog 0 (loopN Try.prog 61 0) (I61 s 0) (Exit.exit 0) (I61 s s.cm.length) 29) ∧ ((AV.d (.bool true) = AV.d (.bool true)) ∧ (True)))))))))) (h := {H := [(1, [(2, .call [] (.d (.int .i64 0)) []), (3, .val (.bool false))])]}) (subs := [⟨[], [], I61 s 0, .exit 0, I61 s s.cm.length⟩]) (ws := []) (ρ := []) (by kernel_rfl) ?_
  simp only [List.length_map]
  repeat' (with_reducible first | exact True.intro | apply And.intro | (first | apply zA | apply zB | apply zC | apply zD | apply zE | apply zF | apply zG) <;> intro)
  all_goals first | exact k1 | exact hL | rfl | skip

set_option maxRecDepth 100000 in
set_option maxHeartbeats 1000000 in
theorem cam61n (s : Sq) (k1 : FnOK Try.prog 67 [.d (.sl (s.cm.map ivD))] [] (.d (.int .i64 0)) []) (hL : Loops Try.prog 0 (loopN Try.prog 61 0) ((I61 s 0).as 29) .ret ((⟨[(2, .d (.bool false))], []⟩ : St).as 29)) : FnOK Try.prog 61 ([.d (sqD s)]) ([]) (.d (.bool false)) ([]) := by
  refine fnOK_wp (p := (FnOK Try.prog 67 [AV.d (.sl (List.map ivD s.cm))] [] (AV.d (.int .i64 (0 : Int))) []) ∧ ((D.bool false = D.bool false) ∧ ((AV.ptr 1008 0 = AV.ptr 1008 0) ∧ ((AV.d (.sl (List.map ivD s.cm)) = AV.d (.sl (List.map ivD s.cm))) ∧ ((AV.d (.int .i64 (↑(List.map ivD s.cm).length : Int)) = AV.d (.int .i64 (↑s.cm.length : Int))) ∧ ((AV.d (.int .i64 (0 : Int)) = AV.d (.int .i64 (0 : Int))) ∧ ((Ob.box [AV.d (.int .i64 s.b), AV.d (.str s.d), AV.d (.int .i64 s.n), AV.d (.sl (List.map ckD s.fl)), AV.d (.sl (List.map ivD s.cm))] = Ob.box [AV.d (.int .i64 s.b), AV.d (.str s.d), AV.d (.int .i64 s.n), AV.d (.sl (List.map ckD s.fl)), AV.d (.sl (List.map ivD s.cm))]) ∧ ((LoopsS Try.prog 0 (loopN Try.prog 61 0) (I61 s 0) Exit.ret (St.mk [(2, AV.d (.bool false))] []) 29) ∧ ((AV.d (.bool false) = AV.d (.bool false)) ∧ (True)))))))))) (h := {H := [(1, [(2, .call [] (.d (.int .i64 0)) []), (3, .val (.bool false))])]}) (subs := [⟨[], [], I61 s 0, .ret, ⟨[(2, .d (.bool false))], []⟩⟩]) (ws := []) (ρ := []) (by kernel_rfl) ?_
  simp only [List.length_map]
  repeat' (with_reducible first | exact True.intro | apply And.intro | (first | apply zA | apply zB | apply zC | apply zD | apply zE | apply zF | apply zG) <;> intro)
  all_goals first | exact k1 | exact hL | rfl | skip

theorem camB_t {s : Sq} {x : Iv} (h : camB s x = true) : ¬x.1 ≤ s.b ∧ ¬x.2 > s.n := by
  unfold camB at h
  simpa using h
theorem came61 (s : Sq) (hl : s.cm.length < 1000000) : FnOK Try.prog 61 [.d (sqD s)] [] (.d (.bool (cameB s))) [] := by
  have k1 := chk19 s.cm hl
  unfold cameB
  by_cases h0 : iChk s.cm = 0
  · rw [h0] at k1
    rw [decide_eq_true h0, Bool.true_and]
    rcases all_or (fun x => camB s x = true) s.cm with h | ⟨m, x, h1, h2, h3⟩
    · rw [List.all_eq_true.2 h]
      exact cam61y s k1 (loops_n (I := fun j => (I61 s j).as 29) (by simp) s.cm.length 0 (by omega) (fun j _ hj => by
        obtain ⟨a, b⟩ := camB_t (h s.cm[j] (List.getElem_mem hj))
        exact r61 s hl j _ (get_of hj) a b) (q61 s))
    · have hm := get_lt h1
      have e : s.cm.all (camB s) = false := by
        cases g : s.cm.all (camB s)
        · rfl
        · exact absurd (List.all_eq_true.1 g x (get_mem h1)) h2
      rw [e]
      refine cam61n s k1 (loops_n (I := fun j => (I61 s j).as 29) (by simp) m 0 (by omega) (fun j _ hj => by
        obtain ⟨a, b⟩ := camB_t (h3 j (s.cm[j]'(by omega)) hj (get_of _))
        exact r61 s hl j _ (get_of _) a b) ?_)
      by_cases a : x.1 ≤ s.b
      · exact e61a s hl m x h1 a
      · refine e61b s hl m x h1 a ?_
        by_cases b : x.2 > s.n
        · exact b
        · exact absurd (show camB s x = true by unfold camB; simp; omega) h2
  · rw [decide_eq_false h0, Bool.false_and]
    exact cam61a s _ h0 k1
/-! ### A chunk's place -/
set_option maxRecDepth 100000 in
set_option maxHeartbeats 1000000 in
theorem fits62a (s : Sq) (c : Ck) (a : Int) (k1 : FnOK Try.prog 37 [.d (ckD c)] [] (.d (.int .i64 (cSz c))) []) (h : c.f < a ∨ c.t > s.n ∨ c.f ≥ c.t ∨ cSz c > 48) (k2 k3 k4 hq : True) : FnOK Try.prog 62 ([.d (sqD s), .d (ckD c), .d (.int .i64 a)]) ([]) (.d (.bool false)) ([]) := by
  refine fnOK_wp (p := condP (decide (c.f < a)) ((D.bool (decide (c.f < a)) = D.bool true) ∧ ((D.bool true = D.bool true) ∧ ((D.bool true = D.bool true) ∧ ((D.bool true = D.bool true) ∧ ((AV.d (.bool false) = AV.d (.bool false)) ∧ (True)))))) (condP (decide (c.t > s.n)) ((D.bool (decide (c.f < a)) = D.bool false) ∧ ((D.bool (decide (c.t > s.n)) = D.bool true) ∧ ((D.bool true = D.bool true) ∧ ((D.bool true = D.bool true) ∧ ((AV.d (.bool false) = AV.d (.bool false)) ∧ (True)))))) (condP (decide (c.f ≥ c.t)) ((D.bool (decide (c.f < a)) = D.bool false) ∧ ((D.bool (decide (c.t > s.n)) = D.bool false) ∧ ((D.bool (decide (c.f ≥ c.t)) = D.bool true) ∧ ((D.bool true = D.bool true) ∧ ((AV.d (.bool false) = AV.d (.bool false)) ∧ (True)))))) ((D.bool (decide (c.f < a)) = D.bool false) ∧ ((D.bool (decide (c.t > s.n)) = D.bool false) ∧ ((D.bool (decide (c.f ≥ c.t)) = D.bool false) ∧ ((FnOK Try.prog 37 [AV.d (.agg [D.int .i64 c.f, D.int .i64 c.t, D.int .i64 c.s, D.int .i64 c.r, D.bool c.l])] [] (AV.d (.int .i64 (cSz c))) []) ∧ ((D.bool (decide (cSz c > (48 : Int))) = D.bool true) ∧ ((AV.d (.bool false) = AV.d (.bool false)) ∧ (True)))))))))) (h := {G := [(37, gAns (.d (.int .i64 (cSz c)))), (74, gAns (.d (ivD (ckI c)))), (73, gAns (.d (.sl []))), (34, gAns (.d (.bool false)))], H := [(1, [(22, .val (.bool true))])]}) (subs := []) (ws := []) (ρ := []) (by kernel_rfl) ?_
  repeat' (with_reducible first | exact True.intro | apply And.intro | (first | apply zA | apply zB | apply zC | apply zD | apply zE | apply zF | apply zG) <;> intro)
  all_goals first | exact k1 | exact k2 | exact k3 | exact k4 | rfl | omega | exact dyes (by omega) | exact dno (by omega) | (refine congrArg D.bool ?_; exact hq) | (exfalso; omega) | (refine congrArg (fun z => AV.d (.bool z)) ?_; simp_all; done) | (refine congrArg D.bool ?_; simp_all; done) | skip

set_option maxRecDepth 100000 in
set_option maxHeartbeats 1000000 in
theorem fits62b (s : Sq) (c : Ck) (a : Int) (k1 : FnOK Try.prog 37 [.d (ckD c)] [] (.d (.int .i64 (cSz c))) []) (h : ¬(c.f < a ∨ c.t > s.n ∨ c.f ≥ c.t ∨ cSz c > 48)) (g : List Iv) (k2 : FnOK Try.prog 73 [.d (.sl (s.cm.map ivD)), .d (ivD (ckI c))] [] (.d (.sl (g.map ivD))) []) (k3 : FnOK Try.prog 74 [.d (ckD c)] [] (.d (ivD (ckI c))) []) (k4 : FnOK Try.prog 34 [.d (.int .i64 c.s)] [] (.d (.bool (tickB c.s))) []) (ht : timB c = false) (hq : True) : FnOK Try.prog 62 ([.d (sqD s), .d (ckD c), .d (.int .i64 a)]) ([]) (.d (.bool false)) ([]) := by
  refine fnOK_wp (p := (D.bool (decide (c.f < a)) = D.bool false) ∧ ((D.bool (decide (c.t > s.n)) = D.bool false) ∧ ((D.bool (decide (c.f ≥ c.t)) = D.bool false) ∧ ((FnOK Try.prog 37 [AV.d (.agg [D.int .i64 c.f, D.int .i64 c.t, D.int .i64 c.s, D.int .i64 c.r, D.bool c.l])] [] (AV.d (.int .i64 (cSz c))) []) ∧ ((D.bool (decide (cSz c > (48 : Int))) = D.bool false) ∧ ((FnOK Try.prog 74 [AV.d (.agg [D.int .i64 c.f, D.int .i64 c.t, D.int .i64 c.s, D.int .i64 c.r, D.bool c.l])] [] (AV.d (.agg [D.int .i64 (ckI c).fst, D.int .i64 (ckI c).snd])) []) ∧ ((FnOK Try.prog 73 [AV.d (.sl (List.map ivD s.cm)), AV.d (.agg [D.int .i64 (ckI c).fst, D.int .i64 (ckI c).snd])] [] (AV.d (.sl (List.map ivD g))) []) ∧ (condP (tickB c.s) (condP (decide (c.r > (0 : Int))) ((FnOK Try.prog 34 [AV.d (.int .i64 c.s)] [] (AV.d (.bool (tickB c.s))) []) ∧ ((D.bool (tickB c.s) = D.bool true) ∧ ((D.bool (decide (c.r > (0 : Int))) = D.bool true) ∧ ((D.bool (decide (c.r ≤ (1073741824 : Int))) = D.bool false) ∧ ((D.bool false = D.bool false) ∧ ((AV.d (.bool false) = AV.d (.bool false)) ∧ (True))))))) ((FnOK Try.prog 34 [AV.d (.int .i64 c.s)] [] (AV.d (.bool (tickB c.s))) []) ∧ ((D.bool (tickB c.s) = D.bool true) ∧ ((D.bool (decide (c.r > (0 : Int))) = D.bool false) ∧ ((D.bool false = D.bool false) ∧ ((D.bool false = D.bool false) ∧ ((AV.d (.bool false) = AV.d (.bool false)) ∧ (True)))))))) ((FnOK Try.prog 34 [AV.d (.int .i64 c.s)] [] (AV.d (.bool (tickB c.s))) []) ∧ ((D.bool (tickB c.s) = D.bool false) ∧ ((D.bool false = D.bool false) ∧ ((D.bool false = D.bool false) ∧ ((D.bool false = D.bool false) ∧ ((AV.d (.bool false) = AV.d (.bool false)) ∧ (True))))))))))))))) (h := {G := [(37, gAns (.d (.int .i64 (cSz c))))], H := [(1, [(4, .val (.bool false)), (11, .val (.bool false)), (18, .val (.bool false)), (22, .val (.bool false))]), (3, [(3, .call [] (.d (ivD (ckI c))) []), (4, .call [] (.d (.sl (g.map ivD))) [])]), (4, [(2, .call [] (.d (.bool (tickB c.s))) []), (13, .val (.bool false))])]}) (subs := []) (ws := []) (ρ := []) (by kernel_rfl) ?_
  unfold timB at ht
  repeat' (with_reducible first | exact True.intro | apply And.intro | (first | apply zA | apply zB | apply zC | apply zD | apply zE | apply zF | apply zG) <;> intro)
  all_goals first | exact k1 | exact k2 | exact k3 | exact k4 | rfl | omega | exact dyes (by omega) | exact dno (by omega) | (refine congrArg D.bool ?_; exact hq) | (exfalso; omega) | (refine congrArg (fun z => AV.d (.bool z)) ?_; simp_all; done) | (refine congrArg D.bool ?_; simp_all; done) | skip

set_option maxRecDepth 100000 in
set_option maxHeartbeats 1000000 in
theorem fits62c (s : Sq) (c : Ck) (a : Int) (k1 : FnOK Try.prog 37 [.d (ckD c)] [] (.d (.int .i64 (cSz c))) []) (h : ¬(c.f < a ∨ c.t > s.n ∨ c.f ≥ c.t ∨ cSz c > 48)) (g : List Iv) (k2 : FnOK Try.prog 73 [.d (.sl (s.cm.map ivD)), .d (ivD (ckI c))] [] (.d (.sl (g.map ivD))) []) (k3 : FnOK Try.prog 74 [.d (ckD c)] [] (.d (ivD (ckI c))) []) (k4 : FnOK Try.prog 34 [.d (.int .i64 c.s)] [] (.d (.bool (tickB c.s))) []) (ht : timB c = true) (hg : ¬(g.length : Int) = 1) (hq : True) : FnOK Try.prog 62 ([.d (sqD s), .d (ckD c), .d (.int .i64 a)]) ([]) (.d (.bool false)) ([]) := by
  refine fnOK_wp (p := (D.bool (decide (c.f < a)) = D.bool false) ∧ ((D.bool (decide (c.t > s.n)) = D.bool false) ∧ ((D.bool (decide (c.f ≥ c.t)) = D.bool false) ∧ ((FnOK Try.prog 37 [AV.d (.agg [D.int .i64 c.f, D.int .i64 c.t, D.int .i64 c.s, D.int .i64 c.r, D.bool c.l])] [] (AV.d (.int .i64 (cSz c))) []) ∧ ((D.bool (decide (cSz c > (48 : Int))) = D.bool false) ∧ ((FnOK Try.prog 74 [AV.d (.agg [D.int .i64 c.f, D.int .i64 c.t, D.int .i64 c.s, D.int .i64 c.r, D.bool c.l])] [] (AV.d (.agg [D.int .i64 (ckI c).fst, D.int .i64 (ckI c).snd])) []) ∧ ((FnOK Try.prog 73 [AV.d (.sl (List.map ivD s.cm)), AV.d (.agg [D.int .i64 (ckI c).fst, D.int .i64 (ckI c).snd])] [] (AV.d (.sl (List.map ivD g))) []) ∧ ((FnOK Try.prog 34 [AV.d (.int .i64 c.s)] [] (AV.d (.bool (tickB c.s))) []) ∧ ((D.bool (tickB c.s) = D.bool true) ∧ ((D.bool (decide (c.r > (0 : Int))) = D.bool true) ∧ ((D.bool (decide (c.r ≤ (1073741824 : Int))) = D.bool true) ∧ ((D.bool ((↑(List.map ivD g).length : Int) == (1 : Int)) = D.bool false) ∧ ((AV.d (.bool false) = AV.d (.bool false)) ∧ (True)))))))))))))) (h := {G := [(37, gAns (.d (.int .i64 (cSz c))))], H := [(1, [(4, .val (.bool false)), (11, .val (.bool false)), (18, .val (.bool false)), (22, .val (.bool false))]), (3, [(3, .call [] (.d (ivD (ckI c))) []), (4, .call [] (.d (.sl (g.map ivD))) [])]), (4, [(2, .call [] (.d (.bool (tickB c.s))) []), (3, .val (.bool true)), (8, .val (.bool true)), (13, .val (.bool true)), (18, .val (.bool false))])]}) (subs := []) (ws := []) (ρ := []) (by kernel_rfl) ?_
  unfold timB at ht
  simp only [Bool.and_eq_true, decide_eq_true_eq] at ht
  obtain ⟨t1, t2, t3⟩ := ht
  simp only [List.length_map]
  repeat' (with_reducible first | exact True.intro | apply And.intro | (first | apply zA | apply zB | apply zC | apply zD | apply zE | apply zF | apply zG) <;> intro)
  all_goals first | exact k1 | exact k2 | exact k3 | exact k4 | rfl | omega | exact dyes (by omega) | exact dno (by omega) | (refine congrArg D.bool ?_; exact hq) | (exfalso; omega) | (refine congrArg (fun z => AV.d (.bool z)) ?_; simp_all; done) | (refine congrArg D.bool ?_; simp_all; done) | skip

set_option maxRecDepth 100000 in
set_option maxHeartbeats 1000000 in
theorem fits62d (s : Sq) (c : Ck) (a : Int) (k1 : FnOK Try.prog 37 [.d (ckD c)] [] (.d (.int .i64 (cSz c))) []) (y : Iv) (q : Bool) (hq : (y.1 == (ckI c).1 && (y.2 == (ckI c).2 && true)) = q) (h : ¬(c.f < a ∨ c.t > s.n ∨ c.f ≥ c.t ∨ cSz c > 48)) (g : List Iv) (hg : g = [y]) (k2 : FnOK Try.prog 73 [.d (.sl (s.cm.map ivD)), .d (ivD (ckI c))] [] (.d (.sl (g.map ivD))) []) (k3 : FnOK Try.prog 74 [.d (ckD c)] [] (.d (ivD (ckI c))) []) (k4 : FnOK Try.prog 34 [.d (.int .i64 c.s)] [] (.d (.bool (tickB c.s))) []) (ht : timB c = true) : FnOK Try.prog 62 ([.d (sqD s), .d (ckD c), .d (.int .i64 a)]) ([]) (.d (.bool q)) ([]) := by
  refine fnOK_wp (p := (D.bool (decide (c.f < a)) = D.bool false) ∧ ((D.bool (decide (c.t > s.n)) = D.bool false) ∧ ((D.bool (decide (c.f ≥ c.t)) = D.bool false) ∧ ((FnOK Try.prog 37 [AV.d (.agg [D.int .i64 c.f, D.int .i64 c.t, D.int .i64 c.s, D.int .i64 c.r, D.bool c.l])] [] (AV.d (.int .i64 (cSz c))) []) ∧ ((D.bool (decide (cSz c > (48 : Int))) = D.bool false) ∧ ((FnOK Try.prog 74 [AV.d (.agg [D.int .i64 c.f, D.int .i64 c.t, D.int .i64 c.s, D.int .i64 c.r, D.bool c.l])] [] (AV.d (.agg [D.int .i64 (ckI c).fst, D.int .i64 (ckI c).snd])) []) ∧ ((FnOK Try.prog 73 [AV.d (.sl (List.map ivD s.cm)), AV.d (.agg [D.int .i64 (ckI c).fst, D.int .i64 (ckI c).snd])] [] (AV.d (.sl (List.map ivD g))) []) ∧ ((FnOK Try.prog 34 [AV.d (.int .i64 c.s)] [] (AV.d (.bool (tickB c.s))) []) ∧ ((D.bool (tickB c.s) = D.bool true) ∧ ((D.bool (decide (c.r > (0 : Int))) = D.bool true) ∧ ((D.bool (decide (c.r ≤ (1073741824 : Int))) = D.bool true) ∧ ((D.bool ((↑(List.map ivD g).length : Int) == (1 : Int)) = D.bool true) ∧ (((0 : Int) ≤ (0 : Int)) ∧ (((List.map ivD g)[0]? = some (D.agg [D.int .i64 y.fst, D.int .i64 y.snd])) ∧ ((FnOK Try.prog 74 [AV.d (.agg [D.int .i64 c.f, D.int .i64 c.t, D.int .i64 c.s, D.int .i64 c.r, D.bool c.l])] [] (AV.d (.agg [D.int .i64 (ckI c).fst, D.int .i64 (ckI c).snd])) []) ∧ ((D.bool (y.fst == (ckI c).fst && (y.snd == (ckI c).snd && true)) = D.bool q) ∧ ((AV.d (.bool q) = AV.d (.bool q)) ∧ (True)))))))))))))))))) (h := {G := [(37, gAns (.d (.int .i64 (cSz c))))], els := [(55, .el (ivD y))], H := [(1, [(4, .val (.bool false)), (11, .val (.bool false)), (18, .val (.bool false)), (22, .val (.bool false))]), (3, [(3, .call [] (.d (ivD (ckI c))) []), (4, .call [] (.d (.sl (g.map ivD))) [])]), (4, [(2, .call [] (.d (.bool (tickB c.s))) []), (3, .val (.bool true)), (8, .val (.bool true)), (13, .val (.bool true)), (18, .val (.bool true)), (23, .call [] (.d (ivD (ckI c))) []), (24, .val (.bool q))])]}) (subs := []) (ws := []) (ρ := []) (by kernel_rfl) ?_
  unfold timB at ht
  simp only [Bool.and_eq_true, decide_eq_true_eq] at ht
  obtain ⟨t1, t2, t3⟩ := ht
  subst hg
  repeat' (with_reducible first | exact True.intro | apply And.intro | (first | apply zA | apply zB | apply zC | apply zD | apply zE | apply zF | apply zG) <;> intro)
  all_goals first | exact k1 | exact k2 | exact k3 | exact k4 | rfl | omega | exact dyes (by omega) | exact dno (by omega) | (refine congrArg D.bool ?_; exact hq) | (exfalso; omega) | (refine congrArg (fun z => AV.d (.bool z)) ?_; simp_all; done) | (refine congrArg D.bool ?_; simp_all; done) | skip

theorem fits62 (s : Sq) (hl : s.cm.length < 300000) (c : Ck) (a : Int) : FnOK Try.prog 62 [.d (sqD s), .d (ckD c), .d (.int .i64 a)] [] (.d (.bool (fitsB s c a))) [] := by
  have k1 := size37 c trivial trivial
  have k2 := gaps15 s.cm hl (ckI c)
  have k3 := ival74 c trivial trivial
  have k4 := tick34 c.s trivial trivial
  unfold fitsB offB
  by_cases h : c.f < a ∨ c.t > s.n ∨ c.f ≥ c.t ∨ cSz c > 48
  · rw [decide_eq_true h]
    exact fits62a s c a k1 h trivial trivial trivial trivial
  · rw [decide_eq_false h]
    generalize rGaps s.cm (ckI c) = g at *
    cases ht : timB c
    · exact fits62b s c a k1 h g k2 k3 k4 ht trivial
    · match g, k2 with
      | [], k2 => exact fits62c s c a k1 h [] k2 k3 k4 ht (by simp) trivial
      | [y], k2 =>
        by_cases e : y = ckI c
        · subst e
          rw [show decide ([ckI c] = [ckI c]) = true by simp]
          exact fits62d s c a k1 (ckI c) true (by simp) h [ckI c] rfl k2 k3 k4 ht
        · rw [show decide ([y] = [ckI c]) = false by simpa using e]
          exact fits62d s c a k1 y false (ivD_ne e) h [y] rfl k2 k3 k4 ht
      | y :: z :: g, k2 =>
        rw [show decide (y :: z :: g = [ckI c]) = false by simp]
        exact fits62c s c a k1 h (y :: z :: g) k2 k3 k4 ht (by simp only [List.length_cons]; omega) trivial
end Go.Proofs.Ytfllhedkgeljaaa

/-
laws 11: whether a state may be; how much is under way; a state's own lists; writing.
-/
set_option linter.unusedSimpArgs false
set_option linter.unusedVariables false
namespace Go.Proofs.Ytfllhedkgeljaaa
open Sx Go.RowKit C06

/-! ### Check -/
def I28 (s : Sq) (a : Int) (j : Nat) : St := ⟨[(1, .ptr 0 0), (3, .d (.int .i64 a)), (39, .d (.sl (s.fl.map ckD))), (40, .d (.int .i64 s.fl.length)), (41, .d (.int .i64 j))], [(0, sqB s)]⟩
set_option maxRecDepth 100000 in
set_option maxHeartbeats 1000000 in
theorem r28 (s : Sq) (hl : s.fl.length < 1000000) (a : Int) (j : Nat) (c : Ck) (hn : s.fl[j]? = some c) (k1 : FnOK Try.prog 62 [.d (sqD s), .d (ckD c), .d (.int .i64 a)] [] (.d (.bool true)) []) : Runs Try.prog 0 (loopN Try.prog 28 0) (St.as (I28 s a j) 53) (.normal) (St.as (I28 s c.t (j+1)) 53) := by
  refine round_wp (p := condP (decide ((↑j : Int) < (↑s.fl.length : Int))) (((0 : Int) ≤ (↑j : Int)) ∧ (((List.map ckD s.fl)[(↑j : Int).toNat]? = some (D.agg [D.int .i64 c.f, D.int .i64 c.t, D.int .i64 c.s, D.int .i64 c.r, D.bool c.l])) ∧ ((FnOK Try.prog 62 [AV.d (.agg [D.int .i64 s.b, D.str s.d, D.int .i64 s.n, D.sl (List.map ckD s.fl), D.sl (List.map ivD s.cm)]), AV.d (.agg [D.int .i64 c.f, D.int .i64 c.t, D.int .i64 c.s, D.int .i64 c.r, D.bool c.l]), AV.d (.int .i64 a)] [] (AV.d (.bool true)) []) ∧ ((AV.ptr 0 0 = AV.ptr 0 0) ∧ ((AV.d (.int .i64 c.t) = AV.d (.int .i64 c.t)) ∧ ((AV.d (.sl (List.map ckD s.fl)) = AV.d (.sl (List.map ckD s.fl))) ∧ ((AV.d (.int .i64 (↑s.fl.length : Int)) = AV.d (.int .i64 (↑s.fl.length : Int))) ∧ ((AV.d (.int .i64 (IntKind.i64.wrap ((↑j : Int) + (1 : Int)))) = AV.d (.int .i64 (↑(j + 1) : Int))) ∧ ((Ob.box [AV.d (.int .i64 s.b), AV.d (.str s.d), AV.d (.int .i64 s.n), AV.d (.sl (List.map ckD s.fl)), AV.d (.sl (List.map ivD s.cm))] = Ob.box [AV.d (.int .i64 s.b), AV.d (.str s.d), AV.d (.int .i64 s.n), AV.d (.sl (List.map ckD s.fl)), AV.d (.sl (List.map ivD s.cm))]) ∧ (True)))))))))) (False)) (h := {els := [(39, .el (ckD c))], G := [(62, gAns (.d (.bool true)))]}) (subs := []) (ws := []) (ρ := []) (by kernel_rfl) ?_
  have hj := get_lt hn
  have hi := inc_i64 (j := j) (by omega)
  try simp only [hi]
  refine condP_t (by rw [decide_eq_true_eq]; omega) ?_
  repeat' (with_reducible first | exact True.intro | apply And.intro | (first | apply zA | apply zB | apply zC | apply zD | apply zE | apply zF | apply zG) <;> intro)
  all_goals first | exact k1 | exact el_map hn rfl | rfl | omega | exact dyes (by omega) | exact dno (by omega) | skip

set_option maxRecDepth 100000 in
set_option maxHeartbeats 1000000 in
theorem e28 (s : Sq) (hl : s.fl.length < 1000000) (a : Int) (j : Nat) (c : Ck) (hn : s.fl[j]? = some c) (k1 : FnOK Try.prog 62 [.d (sqD s), .d (ckD c), .d (.int .i64 a)] [] (.d (.bool false)) []) : Runs Try.prog 0 (loopN Try.prog 28 0) (St.as (I28 s a j) 53) (.ret) (St.as (⟨[(2, .d (.int .i64 10))], []⟩) 53) := by
  refine round_wp (p := condP (decide ((↑j : Int) < (↑s.fl.length : Int))) (((0 : Int) ≤ (↑j : Int)) ∧ (((List.map ckD s.fl)[(↑j : Int).toNat]? = some (D.agg [D.int .i64 c.f, D.int .i64 c.t, D.int .i64 c.s, D.int .i64 c.r, D.bool c.l])) ∧ ((FnOK Try.prog 62 [AV.d (.agg [D.int .i64 s.b, D.str s.d, D.int .i64 s.n, D.sl (List.map ckD s.fl), D.sl (List.map ivD s.cm)]), AV.d (.agg [D.int .i64 c.f, D.int .i64 c.t, D.int .i64 c.s, D.int .i64 c.r, D.bool c.l]), AV.d (.int .i64 a)] [] (AV.d (.bool false)) []) ∧ ((AV.d (.int .i64 (10 : Int)) = AV.d (.int .i64 (10 : Int))) ∧ (True))))) (False)) (h := {els := [(39, .el (ckD c))], G := [(62, gAns (.d (.bool false)))]}) (subs := []) (ws := []) (ρ := []) (by kernel_rfl) ?_
  have hj := get_lt hn
  have hi := inc_i64 (j := j) (by omega)
  try simp only [hi]
  refine condP_t (by rw [decide_eq_true_eq]; omega) ?_
  repeat' (with_reducible first | exact True.intro | apply And.intro | (first | apply zA | apply zB | apply zC | apply zD | apply zE | apply zF | apply zG) <;> intro)
  all_goals first | exact k1 | exact el_map hn rfl | rfl | omega | exact dyes (by omega) | exact dno (by omega) | skip

set_option maxRecDepth 100000 in
set_option maxHeartbeats 1000000 in
theorem q28 (s : Sq) (a : Int) : Runs Try.prog 0 (loopN Try.prog 28 0) (St.as (I28 s a s.fl.length) 53) (.exit 1) (St.as (I28 s a s.fl.length) 53) := by
  refine round_wp (p := condP (decide ((↑s.fl.length : Int) < (↑s.fl.length : Int))) (False) ((AV.ptr 0 0 = AV.ptr 0 0) ∧ ((AV.d (.int .i64 a) = AV.d (.int .i64 a)) ∧ ((AV.d (.sl (List.map ckD s.fl)) = AV.d (.sl (List.map ckD s.fl))) ∧ ((AV.d (.int .i64 (↑s.fl.length : Int)) = AV.d (.int .i64 (↑s.fl.length : Int))) ∧ ((AV.d (.int .i64 (↑s.fl.length : Int)) = AV.d (.int .i64 (↑s.fl.length : Int))) ∧ ((Ob.box [AV.d (.int .i64 s.b), AV.d (.str s.d), AV.d (.int .i64 s.n), AV.d (.sl (List.map ckD s.fl)), AV.d (.sl (List.map ivD s.cm))] = Ob.box [AV.d (.int .i64 s.b), AV.d (.str s.d), AV.d (.int .i64 s.n), AV.d (.sl (List.map ckD s.fl)), AV.d (.sl (List.map ivD s.cm))]) ∧ (True)))))))) (h := {}) (subs := []) (ws := []) (ρ := []) (by kernel_rfl) ?_
  repeat' (with_reducible first | exact True.intro | apply And.intro | (first | apply zA | apply zB | apply zC | apply zD | apply zE | apply zF | apply zG) <;> intro)
  all_goals first | rfl | omega

set_option maxRecDepth 100000 in
set_option maxHeartbeats 1000000 in
theorem chk28a (s : Sq) (h : s.b < 0 ∨ s.b > 1099511623680 ∨ s.n < s.b ∨ IntKind.i64.wrap (s.n - s.b) > (s.d.length : Int)) (k1 hL : True) : FnOK Try.prog 28 ([.d (sqD s)]) ([]) (.d (.int .i64 (if rngB s = true then 8 else 0))) ([]) := by
  refine fnOK_wp (p := condP (decide (s.b < (0 : Int))) (condP (decide (s.b < (0 : Int))) ((AV.d (.int .i64 (8 : Int)) = AV.d (.int .i64 (if rngB s = true then (8 : Int) else (0 : Int)))) ∧ (True)) (condP (decide ((↑s.d.length : Int) > (4096 : Int))) ((AV.d (.int .i64 (5 : Int)) = AV.d (.int .i64 (if rngB s = true then (8 : Int) else (0 : Int)))) ∧ (True)) ((FnOK Try.prog 61 [AV.d (.agg [D.int .i64 s.b, D.str s.d, D.int .i64 s.n, D.sl (List.map ckD s.fl), D.sl (List.map ivD s.cm)])] [] (AV.d (.bool false)) []) ∧ ((AV.d (.int .i64 (4 : Int)) = AV.d (.int .i64 (if rngB s = true then (8 : Int) else (0 : Int)))) ∧ (True))))) (condP (decide (s.b > (1099511623680 : Int))) (condP (decide (s.b > (1099511623680 : Int))) ((AV.d (.int .i64 (8 : Int)) = AV.d (.int .i64 (if rngB s = true then (8 : Int) else (0 : Int)))) ∧ (True)) (condP (decide ((↑s.d.length : Int) > (4096 : Int))) ((AV.d (.int .i64 (5 : Int)) = AV.d (.int .i64 (if rngB s = true then (8 : Int) else (0 : Int)))) ∧ (True)) ((FnOK Try.prog 61 [AV.d (.agg [D.int .i64 s.b, D.str s.d, D.int .i64 s.n, D.sl (List.map ckD s.fl), D.sl (List.map ivD s.cm)])] [] (AV.d (.bool false)) []) ∧ ((AV.d (.int .i64 (4 : Int)) = AV.d (.int .i64 (if rngB s = true then (8 : Int) else (0 : Int)))) ∧ (True))))) (condP (decide (s.n < s.b)) (condP (decide (s.n < s.b)) ((AV.d (.int .i64 (8 : Int)) = AV.d (.int .i64 (if rngB s = true then (8 : Int) else (0 : Int)))) ∧ (True)) (condP (decide ((↑s.d.length : Int) > (4096 : Int))) ((AV.d (.int .i64 (5 : Int)) = AV.d (.int .i64 (if rngB s = true then (8 : Int) else (0 : Int)))) ∧ (True)) ((FnOK Try.prog 61 [AV.d (.agg [D.int .i64 s.b, D.str s.d, D.int .i64 s.n, D.sl (List.map ckD s.fl), D.sl (List.map ivD s.cm)])] [] (AV.d (.bool false)) []) ∧ ((AV.d (.int .i64 (4 : Int)) = AV.d (.int .i64 (if rngB s = true then (8 : Int) else (0 : Int)))) ∧ (True))))) (condP (decide (IntKind.i64.wrap (s.n - s.b) > (↑s.d.length : Int))) ((AV.d (.int .i64 (8 : Int)) = AV.d (.int .i64 (if rngB s = true then (8 : Int) else (0 : Int)))) ∧ (True)) (condP (decide ((↑s.d.length : Int) > (4096 : Int))) ((AV.d (.int .i64 (5 : Int)) = AV.d (.int .i64 (if rngB s = true then (8 : Int) else (0 : Int)))) ∧ (True)) ((FnOK Try.prog 61 [AV.d (.agg [D.int .i64 s.b, D.str s.d, D.int .i64 s.n, D.sl (List.map ckD s.fl), D.sl (List.map ivD s.cm)])] [] (AV.d (.bool false)) []) ∧ ((AV.d (.int .i64 (4 : Int)) = AV.d (.int .i64 (if rngB s = true then (8 : Int) else (0 : Int)))) ∧ (True)))))))) (h := {G := [(61, gAns (.d (.bool false)))]}) (subs := []) (ws := []) (ρ := []) (by kernel_rfl) ?_
  have e : rngB s = true := decide_eq_true h
  rw [e]
  repeat' (with_reducible first | exact True.intro | apply And.intro | (first | apply zA | apply zB | apply zC | apply zD | apply zE | apply zF | apply zG) <;> intro)
  all_goals first | exact k1 | exact hL | rfl | omega | exact dyes (by omega) | exact dno (by omega) | (exfalso; omega) | skip

set_option maxRecDepth 100000 in
set_option maxHeartbeats 1000000 in
theorem chk28b (s : Sq) (h : ¬(s.b < 0 ∨ s.b > 1099511623680 ∨ s.n < s.b ∨ IntKind.i64.wrap (s.n - s.b) > (s.d.length : Int))) (hd : (s.d.length : Int) > 4096) (k1 hL : True) : FnOK Try.prog 28 ([.d (sqD s)]) ([]) (.d (.int .i64 5)) ([]) := by
  refine fnOK_wp (p := (D.bool (decide (s.b < (0 : Int))) = D.bool false) ∧ ((D.bool (decide (s.b > (1099511623680 : Int))) = D.bool false) ∧ ((D.bool (decide (s.n < s.b)) = D.bool false) ∧ ((D.bool (decide (IntKind.i64.wrap (s.n - s.b) > (↑s.d.length : Int))) = D.bool false) ∧ ((D.bool (decide ((↑s.d.length : Int) > (4096 : Int))) = D.bool true) ∧ ((AV.d (.int .i64 (5 : Int)) = AV.d (.int .i64 (5 : Int))) ∧ (True))))))) (h := {H := [(1, [(2, .val (.bool false))]), (2, [(2, .val (.bool false))]), (3, [(4, .val (.bool false))]), (4, [(8, .val (.bool false))]), (6, [(3, .val (.bool true))])]}) (subs := []) (ws := []) (ρ := []) (by kernel_rfl) ?_
  repeat' (with_reducible first | exact True.intro | apply And.intro | (first | apply zA | apply zB | apply zC | apply zD | apply zE | apply zF | apply zG) <;> intro)
  all_goals first | exact k1 | exact hL | rfl | omega | exact dyes (by omega) | exact dno (by omega) | (exfalso; omega) | skip

set_option maxRecDepth 100000 in
set_option maxHeartbeats 1000000 in
theorem chk28c (s : Sq) (h : ¬(s.b < 0 ∨ s.b > 1099511623680 ∨ s.n < s.b ∨ IntKind.i64.wrap (s.n - s.b) > (s.d.length : Int))) (hd : ¬(s.d.length : Int) > 4096) (k1 : FnOK Try.prog 61 [.d (sqD s)] [] (.d (.bool false)) []) (hL : True) : FnOK Try.prog 28 ([.d (sqD s)]) ([]) (.d (.int .i64 4)) ([]) := by
  refine fnOK_wp (p := (D.bool (decide (s.b < (0 : Int))) = D.bool false) ∧ ((D.bool (decide (s.b > (1099511623680 : Int))) = D.bool false) ∧ ((D.bool (decide (s.n < s.b)) = D.bool false) ∧ ((D.bool (decide (IntKind.i64.wrap (s.n - s.b) > (↑s.d.length : Int))) = D.bool false) ∧ ((D.bool (decide ((↑s.d.length : Int) > (4096 : Int))) = D.bool false) ∧ ((FnOK Try.prog 61 [AV.d (.agg [D.int .i64 s.b, D.str s.d, D.int .i64 s.n, D.sl (List.map ckD s.fl), D.sl (List.map ivD s.cm)])] [] (AV.d (.bool false)) []) ∧ ((AV.d (.int .i64 (4 : Int)) = AV.d (.int .i64 (4 : Int))) ∧ (True)))))))) (h := {G := [(61, gAns (.d (.bool false)))], H := [(1, [(2, .val (.bool false))]), (2, [(2, .val (.bool false))]), (3, [(4, .val (.bool false))]), (4, [(8, .val (.bool false))]), (6, [(3, .val (.bool false))])]}) (subs := []) (ws := []) (ρ := []) (by kernel_rfl) ?_
  repeat' (with_reducible first | exact True.intro | apply And.intro | (first | apply zA | apply zB | apply zC | apply zD | apply zE | apply zF | apply zG) <;> intro)
  all_goals first | exact k1 | exact hL | rfl | omega | exact dyes (by omega) | exact dno (by omega) | (exfalso; omega) | skip

set_option maxRecDepth 100000 in
set_option maxHeartbeats 1000000 in
theorem chk28d (s : Sq) (h : ¬(s.b < 0 ∨ s.b > 1099511623680 ∨ s.n < s.b ∨ IntKind.i64.wrap (s.n - s.b) > (s.d.length : Int))) (hd : ¬(s.d.length : Int) > 4096) (k1 : FnOK Try.prog 61 [.d (sqD s)] [] (.d (.bool true)) []) (hL : Loops Try.prog 0 (loopN Try.prog 28 0) ((I28 s s.b 0).as 53) .ret ((⟨[(2, .d (.int .i64 10))], []⟩ : St).as 53)) : FnOK Try.prog 28 ([.d (sqD s)]) ([]) (.d (.int .i64 10)) ([]) := by
  refine fnOK_wp (p := (D.bool (decide (s.b < (0 : Int))) = D.bool false) ∧ ((D.bool (decide (s.b > (1099511623680 : Int))) = D.bool false) ∧ ((D.bool (decide (s.n < s.b)) = D.bool false) ∧ ((D.bool (decide (IntKind.i64.wrap (s.n - s.b) > (↑s.d.length : Int))) = D.bool false) ∧ ((D.bool (decide ((↑s.d.length : Int) > (4096 : Int))) = D.bool false) ∧ ((FnOK Try.prog 61 [AV.d (.agg [D.int .i64 s.b, D.str s.d, D.int .i64 s.n, D.sl (List.map ckD s.fl), D.sl (List.map ivD s.cm)])] [] (AV.d (.bool true)) []) ∧ ((AV.ptr 1008 0 = AV.ptr 1008 0) ∧ ((AV.d (.int .i64 s.b) = AV.d (.int .i64 s.b)) ∧ ((AV.d (.sl (List.map ckD s.fl)) = AV.d (.sl (List.map ckD s.fl))) ∧ ((AV.d (.int .i64 (↑(List.map ckD s.fl).length : Int)) = AV.d (.int .i64 (↑s.fl.length : Int))) ∧ ((AV.d (.int .i64 (0 : Int)) = AV.d (.int .i64 (0 : Int))) ∧ ((Ob.box [AV.d (.int .i64 s.b), AV.d (.str s.d), AV.d (.int .i64 s.n), AV.d (.sl (List.map ckD s.fl)), AV.d (.sl (List.map ivD s.cm))] = Ob.box [AV.d (.int .i64 s.b), AV.d (.str s.d), AV.d (.int .i64 s.n), AV.d (.sl (List.map ckD s.fl)), AV.d (.sl (List.map ivD s.cm))]) ∧ ((LoopsS Try.prog 0 (loopN Try.prog 28 0) (I28 s s.b 0) Exit.ret (St.mk [(2, AV.d (.int .i64 (10 : Int)))] []) 53) ∧ ((AV.d (.int .i64 (10 : Int)) = AV.d (.int .i64 (10 : Int))) ∧ (True))))))))))))))) (h := {G := [(61, gAns (.d (.bool true)))], H := [(1, [(2, .val (.bool false))]), (2, [(2, .val (.bool false))]), (3, [(4, .val (.bool false))]), (4, [(8, .val (.bool false))]), (6, [(3, .val (.bool false))])]}) (subs := [⟨[], [], I28 s s.b 0, .ret, ⟨[(2, .d (.int .i64 10))], []⟩⟩]) (ws := []) (ρ := []) (by kernel_rfl) ?_
  simp only [List.length_map]
  repeat' (with_reducible first | exact True.intro | apply And.intro | (first | apply zA | apply zB | apply zC | apply zD | apply zE | apply zF | apply zG) <;> intro)
  all_goals first | exact k1 | exact hL | rfl | omega | exact dyes (by omega) | exact dno (by omega) | (exfalso; omega) | skip

set_option maxRecDepth 100000 in
set_option maxHeartbeats 1000000 in
theorem chk28e (s : Sq) (h : ¬(s.b < 0 ∨ s.b > 1099511623680 ∨ s.n < s.b ∨ IntKind.i64.wrap (s.n - s.b) > (s.d.length : Int))) (hd : ¬(s.d.length : Int) > 4096) (k1 : FnOK Try.prog 61 [.d (sqD s)] [] (.d (.bool true)) []) (a : Int) (hL : Loops Try.prog 0 (loopN Try.prog 28 0) ((I28 s s.b 0).as 53) (.exit 1) ((I28 s a s.fl.length).as 53)) : FnOK Try.prog 28 ([.d (sqD s)]) ([]) (.d (.int .i64 0)) ([]) := by
  refine fnOK_wp (p := (D.bool (decide (s.b < (0 : Int))) = D.bool false) ∧ ((D.bool (decide (s.b > (1099511623680 : Int))) = D.bool false) ∧ ((D.bool (decide (s.n < s.b)) = D.bool false) ∧ ((D.bool (decide (IntKind.i64.wrap (s.n - s.b) > (↑s.d.length : Int))) = D.bool false) ∧ ((D.bool (decide ((↑s.d.length : Int) > (4096 : Int))) = D.bool false) ∧ ((FnOK Try.prog 61 [AV.d (.agg [D.int .i64 s.b, D.str s.d, D.int .i64 s.n, D.sl (List.map ckD s.fl), D.sl (List.map ivD s.cm)])] [] (AV.d (.bool true)) []) ∧ ((AV.ptr 1008 0 = AV.ptr 1008 0) ∧ ((AV.d (.int .i64 s.b) = AV.d (.int .i64 s.b)) ∧ ((AV.d (.sl (List.map ckD s.fl)) = AV.d (.sl (List.map ckD s.fl))) ∧ ((AV.d (.int .i64 (↑(List.map ckD s.fl).length : Int)) = AV.d (.int .i64 (↑s.fl.length : Int))) ∧ ((AV.d (.int .i64 (0 : Int)) = AV.d (.int .i64 (0 : Int))) ∧ ((Ob.box [AV.d (.int .i64 s.b), AV.d (.str s.d), AV.d (.int .i64 s.n), AV.d (.sl (List.map ckD s.fl)), AV.d (.sl (List.map ivD s.cm))] = Ob.box [AV.d (.int .i64 s.b), AV.d (.str s.d), AV.d (.int .i64 s.n), AV.d (.sl (List.map ckD s.fl)), AV.d (.sl (List.map ivD s.cm))]) ∧ ((LoopsS Try.prog 0 (loopN Try.prog 28 0) (I28 s s.b 0) (Exit.exit 1) (I28 s a s.fl.length) 53) ∧ ((AV.d (.int .i64 (0 : Int)) = AV.d (.int .i64 (0 : Int))) ∧ (True))))))))))))))) (h := {G := [(61, gAns (.d (.bool true)))], H := [(1, [(2, .val (.bool false))]), (2, [(2, .val (.bool false))]), (3, [(4, .val (.bool false))]), (4, [(8, .val (.bool false))]), (6, [(3, .val (.bool false))])]}) (subs := [⟨[], [], I28 s s.b 0, .exit 1, I28 s a s.fl.length⟩]) (ws := []) (ρ := []) (by kernel_rfl) ?_
  simp only [List.length_map]
  repeat' (with_reducible first | exact True.intro | apply And.intro | (first | apply zA | apply zB | apply zC | apply zD | apply zE | apply zF | apply zG) <;> intro)
  all_goals first | exact k1 | exact hL | rfl | omega | exact dyes (by omega) | exact dno (by omega) | (exfalso; omega) | skip

theorem lp28 (s : Sq) (hf : s.fl.length < 1000000) (hc : s.cm.length < 300000) : ∀ (l : List Ck) (j : Nat) (a : Int), s.fl.drop j = l → j ≤ s.fl.length →
    (flB s l a = true → ∃ a', Loops Try.prog 0 (loopN Try.prog 28 0) ((I28 s a j).as 53) (.exit 1) ((I28 s a' s.fl.length).as 53)) ∧
    (flB s l a = false → Loops Try.prog 0 (loopN Try.prog 28 0) ((I28 s a j).as 53) .ret ((⟨[(2, .d (.int .i64 10))], []⟩ : St).as 53))
  | [], j, a, h, hj => by
    have e : j = s.fl.length := by
      have := congrArg List.length h
      rw [List.length_drop, List.length_nil] at this
      omega
    subst e
    exact ⟨fun _ => ⟨a, .out (q28 s a) (by simp)⟩, fun g => by cases g⟩
  | c :: l, j, a, h, hj => by
    have hlt : j < s.fl.length := by
      have := congrArg List.length h
      rw [List.length_drop, List.length_cons] at this
      omega
    have hn : s.fl[j]? = some c := by
      have := congrArg (fun z => z[0]?) h
      simpa using this
    have hd : s.fl.drop (j + 1) = l := by
      have := congrArg (fun z => z.drop 1) h
      simpa using this
    obtain ⟨i1, i2⟩ := lp28 s hf hc l (j + 1) c.t hd (by omega)
    have k := fits62 s hc c a
    unfold flB
    cases g : fitsB s c a
    · rw [g] at k
      exact ⟨fun q => by simp at q, fun _ => .out (e28 s hf a j c hn k) (by simp)⟩
    · rw [g] at k
      have r := r28 s hf a j c hn k
      refine ⟨fun q => ?_, fun q => ?_⟩
      · obtain ⟨a', h'⟩ := i1 (by simpa using q)
        exact ⟨a', .next r h'⟩
      · exact .next r (i2 (by simpa using q))
theorem chk28 (s : Sq) (hf : s.fl.length < 1000000) (hc : s.cm.length < 300000) : FnOK Try.prog 28 [.d (sqD s)] [] (.d (.int .i64 (sChk s))) [] := by
  have k1 := came61 s (by omega)
  unfold sChk
  by_cases h : s.b < 0 ∨ s.b > 1099511623680 ∨ s.n < s.b ∨ IntKind.i64.wrap (s.n - s.b) > (s.d.length : Int)
  · have e : rngB s = true := decide_eq_true h
    have k := chk28a s h trivial trivial
    rw [e] at k ⊢
    exact k
  · have e : rngB s = false := decide_eq_false h
    rw [e, if_neg (by simp)]
    by_cases hd : (s.d.length : Int) > 4096
    · rw [if_pos hd]; exact chk28b s h hd trivial trivial
    · rw [if_neg hd]
      cases hm : cameB s
      · rw [hm] at k1
        exact chk28c s h hd k1 trivial
      · rw [hm] at k1
        rw [if_neg (by simp)]
        obtain ⟨i1, i2⟩ := lp28 s hf hc s.fl 0 s.b rfl (by omega)
        cases hq : flB s s.fl s.b
        · exact chk28d s h hd k1 (i2 hq)
        · obtain ⟨a', h'⟩ := i1 hq
          exact chk28e s h hd k1 a' h'
/-! ### How much is under way -/
def flS (n : Int) (c : Ck) : Int := if c.l = true then n else IntKind.i64.wrap (n + cSz c)
def rFlight (s : Sq) : Int := s.fl.foldl flS 0
def I24 (s : Sq) (n : Int) (j : Nat) : St := ⟨[(3, .d (.int .i64 n)), (7, .d (.sl (s.fl.map ckD))), (8, .d (.int .i64 s.fl.length)), (9, .d (.int .i64 j))], []⟩
set_option maxRecDepth 100000 in
set_option maxHeartbeats 1000000 in
theorem r24 (s : Sq) (hl : s.fl.length < 1000000) (a : Int) (j : Nat) (c : Ck) (hn : s.fl[j]? = some c) (k1 : FnOK Try.prog 37 [.d (ckD c)] [] (.d (.int .i64 (cSz c))) []) (hc : c.l = false) : Runs Try.prog 0 (loopN Try.prog 24 0) (St.as (I24 s a j) 22) (.normal) (St.as (I24 s (IntKind.i64.wrap (a + cSz c)) (j+1)) 22) := by
  refine round_wp (p := condP (decide ((↑j : Int) < (↑s.fl.length : Int))) (((0 : Int) ≤ (↑j : Int)) ∧ (((List.map ckD s.fl)[(↑j : Int).toNat]? = some (D.agg [D.int .i64 c.f, D.int .i64 c.t, D.int .i64 c.s, D.int .i64 c.r, D.bool c.l])) ∧ (((D.bool !c.l) = D.bool true) ∧ ((FnOK Try.prog 37 [AV.d (.agg [D.int .i64 c.f, D.int .i64 c.t, D.int .i64 c.s, D.int .i64 c.r, D.bool c.l])] [] (AV.d (.int .i64 (cSz c))) []) ∧ ((AV.d (.int .i64 (IntKind.i64.wrap (a + cSz c))) = AV.d (.int .i64 (IntKind.i64.wrap (a + cSz c)))) ∧ ((AV.d (.sl (List.map ckD s.fl)) = AV.d (.sl (List.map ckD s.fl))) ∧ ((AV.d (.int .i64 (↑s.fl.length : Int)) = AV.d (.int .i64 (↑s.fl.length : Int))) ∧ ((AV.d (.int .i64 (IntKind.i64.wrap ((↑j : Int) + (1 : Int)))) = AV.d (.int .i64 (↑(j + 1) : Int))) ∧ (True))))))))) (False)) (h := {els := [(7, .el (ckD c))], H := [(5, [(2, .val (.bool true))])], G := [(37, gAns (.d (.int .i64 (cSz c))))]}) (subs := []) (ws := []) (ρ := []) (by kernel_rfl) ?_
  have hq : D.bool (!c.l) = D.bool true := by rw [hc]; rfl
  have hj := get_lt hn
  have hi := inc_i64 (j := j) (by omega)
  try simp only [hi]
  refine condP_t (by rw [decide_eq_true_eq]; omega) ?_
  repeat' (with_reducible first | exact True.intro | apply And.intro | (first | apply zA | apply zB | apply zC | apply zD | apply zE | apply zF | apply zG) <;> intro)
  all_goals first | exact k1 | exact hq | exact el_map hn rfl | rfl | omega | skip

set_option maxRecDepth 100000 in
set_option maxHeartbeats 1000000 in
theorem s24 (s : Sq) (hl : s.fl.length < 1000000) (a : Int) (j : Nat) (c : Ck) (hn : s.fl[j]? = some c) (hc : c.l = true) : Runs Try.prog 0 (loopN Try.prog 24 0) (St.as (I24 s a j) 22) (.normal) (St.as (I24 s a (j+1)) 22) := by
  refine round_wp (p := condP (decide ((↑j : Int) < (↑s.fl.length : Int))) (((0 : Int) ≤ (↑j : Int)) ∧ (((List.map ckD s.fl)[(↑j : Int).toNat]? = some (D.agg [D.int .i64 c.f, D.int .i64 c.t, D.int .i64 c.s, D.int .i64 c.r, D.bool c.l])) ∧ (((D.bool !c.l) = D.bool false) ∧ ((AV.d (.int .i64 a) = AV.d (.int .i64 a)) ∧ ((AV.d (.sl (List.map ckD s.fl)) = AV.d (.sl (List.map ckD s.fl))) ∧ ((AV.d (.int .i64 (↑s.fl.length : Int)) = AV.d (.int .i64 (↑s.fl.length : Int))) ∧ ((AV.d (.int .i64 (IntKind.i64.wrap ((↑j : Int) + (1 : Int)))) = AV.d (.int .i64 (↑(j + 1) : Int))) ∧ (True)))))))) (False)) (h := {els := [(7, .el (ckD c))], H := [(5, [(2, .val (.bool false))])]}) (subs := []) (ws := []) (ρ := []) (by kernel_rfl) ?_
  have hq : D.bool (!c.l) = D.bool false := by rw [hc]; rfl
  have hj := get_lt hn
  have hi := inc_i64 (j := j) (by omega)
  try simp only [hi]
  refine condP_t (by rw [decide_eq_true_eq]; omega) ?_
  repeat' (with_reducible first | exact True.intro | apply And.intro | (first | apply zA | apply zB | apply zC | apply zD | apply zE | apply zF | apply zG) <;> intro)
  all_goals first | exact hq | exact el_map hn rfl | rfl | omega | skip

set_option maxRecDepth 100000 in
set_option maxHeartbeats 1000000 in
theorem q24 (s : Sq) (a : Int) : Runs Try.prog 0 (loopN Try.prog 24 0) (St.as (I24 s a s.fl.length) 22) (.exit 0) (St.as (I24 s a s.fl.length) 22) := by
  refine round_wp (p := condP (decide ((↑s.fl.length : Int) < (↑s.fl.length : Int))) (False) ((AV.d (.int .i64 a) = AV.d (.int .i64 a)) ∧ ((AV.d (.sl (List.map ckD s.fl)) = AV.d (.sl (List.map ckD s.fl))) ∧ ((AV.d (.int .i64 (↑s.fl.length : Int)) = AV.d (.int .i64 (↑s.fl.length : Int))) ∧ ((AV.d (.int .i64 (↑s.fl.length : Int)) = AV.d (.int .i64 (↑s.fl.length : Int))) ∧ (True)))))) (h := {}) (subs := []) (ws := []) (ρ := []) (by kernel_rfl) ?_
  repeat' (with_reducible first | exact True.intro | apply And.intro | (first | apply zA | apply zB | apply zC | apply zD | apply zE | apply zF | apply zG) <;> intro)
  all_goals first | rfl | omega

set_option maxRecDepth 100000 in
set_option maxHeartbeats 1000000 in
theorem flight24w (s : Sq) (a : Int) (hL : Loops Try.prog 0 (loopN Try.prog 24 0) ((I24 s 0 0).as 22) (.exit 0) ((I24 s a s.fl.length).as 22)) : FnOK Try.prog 24 ([.d (sqD s)]) ([]) (.d (.int .i64 a)) ([]) := by
  refine fnOK_wp (p := (AV.d (.int .i64 (0 : Int)) = AV.d (.int .i64 (0 : Int))) ∧ ((AV.d (.sl (List.map ckD s.fl)) = AV.d (.sl (List.map ckD s.fl))) ∧ ((AV.d (.int .i64 (↑(List.map ckD s.fl).length : Int)) = AV.d (.int .i64 (↑s.fl.length : Int))) ∧ ((AV.d (.int .i64 (0 : Int)) = AV.d (.int .i64 (0 : Int))) ∧ ((LoopsS Try.prog 0 (loopN Try.prog 24 0) (I24 s (0 : Int) 0) (Exit.exit 0) (I24 s a s.fl.length) 22) ∧ ((AV.d (.int .i64 a) = AV.d (.int .i64 a)) ∧ (True))))))) (h := {}) (subs := [⟨[], [], I24 s 0 0, .exit 0, I24 s a s.fl.length⟩]) (ws := []) (ρ := []) (by kernel_rfl) ?_
  simp only [List.length_map]
  repeat' (with_reducible first | exact True.intro | apply And.intro | (first | apply zA | apply zB | apply zC | apply zD | apply zE | apply zF | apply zG) <;> intro)
  all_goals first | exact hL | rfl | skip

theorem flight24 (s : Sq) (hf : s.fl.length < 1000000) : FnOK Try.prog 24 [.d (sqD s)] [] (.d (.int .i64 (rFlight s))) [] := by
  have h := loops_n (P := Try.prog) (k := 0) (c := loopN Try.prog 24 0) (e := .exit 0) (I := fun j => (I24 s ((s.fl.take j).foldl flS 0) j).as 22) (by simp) s.fl.length 0 (by omega) (fun j _ hj => by
    have hn := get_of hj
    show Runs _ _ _ _ _ ((I24 s ((s.fl.take (j + 1)).foldl flS 0) (j + 1)).as _)
    rw [take_snoc hn, List.foldl_append]
    show Runs _ _ _ _ _ ((I24 s (flS ((s.fl.take j).foldl flS 0) s.fl[j]) (j + 1)).as _)
    unfold flS
    split
    · next g => exact s24 s hf _ j _ hn g
    · next g => exact r24 s hf _ j _ hn (size37 _ trivial trivial) (by cases q : s.fl[j].l; rfl; exact absurd q g)) (by simp only [List.take_length]; exact q24 s _)
  exact flight24w s _ h
/-! ### A state with lists of its own -/
set_option maxRecDepth 100000 in
set_option maxHeartbeats 1000000 in
theorem own33 (s : Sq) (k1 : FnOK Try.prog 70 [.d (.sl (s.fl.map ckD))] [] (.own 0 5) [.row 5 (s.fl.map ckD)]) (k2 : FnOK Try.prog 68 [.d (.sl (s.cm.map ivD))] [] (.own 0 2) [.row 2 (s.cm.map ivD)]) : FnOK Try.prog 33 ([.d (sqD s)]) ([]) (.d (sqD s)) ([]) := by
  refine fnOK_wp (p := ((0 : Int) ≤ (0 : Int) ∧ (0 : Int) ≤ (↑(List.map ckD s.fl).length : Int) ∧ (↑(List.map ckD s.fl).length : Int) ≤ (↑(List.map ckD s.fl).length : Int) ∧ (↑(List.map ckD s.fl).length : Int) ≤ (↑(List.map ckD s.fl).length : Int)) ∧ ((∀ (e : D), e ∈ List.map ckD s.fl → e.cells.length = 5) ∧ ((FnOK Try.prog 70 [AV.d (.sl (List.drop 0 (List.take (↑(List.map ckD s.fl).length : Int).toNat (List.map ckD s.fl))))] [] (AV.own 0 5) [Ob.row 5 (List.map ckD s.fl)]) ∧ ((FnOK Try.prog 68 [AV.d (.sl (List.map ivD s.cm))] [] (AV.own 0 2) [Ob.row 2 (List.map ivD s.cm)]) ∧ ((AV.d (.agg [D.int .i64 s.b, D.str s.d, D.int .i64 s.n, D.sl (List.map ckD s.fl), D.sl (List.map ivD s.cm)]) = AV.d (.agg [D.int .i64 s.b, D.str s.d, D.int .i64 s.n, D.sl (List.map ckD s.fl), D.sl (List.map ivD s.cm)])) ∧ (True)))))) (h := {H := [(1, [(9, .call [] (.own 0 5) [.row 5 (s.fl.map ckD)])]), (2, [(2, .call [] (.own 0 2) [.row 2 (s.cm.map ivD)])])]}) (subs := []) (ws := []) (ρ := []) (by kernel_rfl) ?_
  try simp only [Int.toNat_natCast, List.take_length]
  repeat' (with_reducible first | exact True.intro | apply And.intro | (first | apply zA | apply zB | apply zC | apply zD | apply zE | apply zF | apply zG) <;> intro)
  all_goals first | exact k1 | exact k2 | exact ckD_sz _ | rfl | omega | (rw [List.take_length]; done) | (simp; done) | skip

set_option maxRecDepth 100000 in
set_option maxHeartbeats 1000000 in
theorem own33o (s : Sq) (k1 : FnOK Try.prog 70 [.d (.sl (s.fl.map ckD))] [] (.own 0 5) [.row 5 (s.fl.map ckD)]) (k2 : FnOK Try.prog 68 [.d (.sl (s.cm.map ivD))] [] (.own 0 2) [.row 2 (s.cm.map ivD)]) : FnOK Try.prog 33 ([.d (sqD s)]) ([]) (.agg [.d (.int .i64 s.b), .d (.str s.d), .d (.int .i64 s.n), .own 0 5, .own 1 2]) ([.row 5 (s.fl.map ckD), .row 2 (s.cm.map ivD)]) := by
  refine fnOK_wp (p := ((0 : Int) ≤ (0 : Int) ∧ (0 : Int) ≤ (↑(List.map ckD s.fl).length : Int) ∧ (↑(List.map ckD s.fl).length : Int) ≤ (↑(List.map ckD s.fl).length : Int) ∧ (↑(List.map ckD s.fl).length : Int) ≤ (↑(List.map ckD s.fl).length : Int)) ∧ ((∀ (e : D), e ∈ List.map ckD s.fl → e.cells.length = 5) ∧ ((FnOK Try.prog 70 [AV.d (.sl (List.drop 0 (List.take (↑(List.map ckD s.fl).length : Int).toNat (List.map ckD s.fl))))] [] (AV.own 0 5) [Ob.row 5 (List.map ckD s.fl)]) ∧ ((FnOK Try.prog 68 [AV.d (.sl (List.map ivD s.cm))] [] (AV.own 0 2) [Ob.row 2 (List.map ivD s.cm)]) ∧ ((AV.agg [AV.d (.int .i64 s.b), AV.d (.str s.d), AV.d (.int .i64 s.n), AV.own 1096 5, AV.own 1128 2] = AV.agg [AV.d (.int .i64 s.b), AV.d (.str s.d), AV.d (.int .i64 s.n), AV.own 1096 5, AV.own 1128 2]) ∧ ((Ob.row 5 (List.map ckD s.fl) = Ob.row 5 (List.map ckD s.fl)) ∧ ((Ob.row 2 (List.map ivD s.cm) = Ob.row 2 (List.map ivD s.cm)) ∧ (True)))))))) (h := {H := [(1, [(9, .call [] (.own 0 5) [.row 5 (s.fl.map ckD)])]), (2, [(2, .call [] (.own 0 2) [.row 2 (s.cm.map ivD)])])]}) (subs := []) (ws := []) (ρ := []) (by kernel_rfl) ?_
  try simp only [Int.toNat_natCast, List.take_length]
  repeat' (with_reducible first | exact True.intro | apply And.intro | (first | apply zA | apply zB | apply zC | apply zD | apply zE | apply zF | apply zG) <;> intro)
  all_goals first | exact k1 | exact k2 | exact ckD_sz _ | rfl | omega | (rw [List.take_length]; done) | (simp; done) | skip

end Go.Proofs.Ytfllhedkgeljaaa

/-
laws 11: writing; sending again; what is sent next.
-/
set_option linter.unusedSimpArgs false
set_option linter.unusedVariables false
namespace Go.Proofs.Ytfllhedkgeljaaa
open Sx Go.RowKit C06

structure SqOk (s : Sq) : Prop where
  b : -9223372036854775808 ≤ s.b ∧ s.b < 9223372036854775808
  n : -9223372036854775808 ≤ s.n ∧ s.n < 9223372036854775808
  fl : s.fl.length < 100000
  cm : s.cm.length < 100000
  d : s.d.length < 1000000
/-! ### A state with lists of its own -/
set_option maxRecDepth 100000 in
set_option maxHeartbeats 1000000 in
theorem own33h (s : Sq) (k1 : FnOK Try.prog 70 [.d (.sl (s.fl.map ckD))] [] (.own 0 5) [.row 5 (s.fl.map ckD)]) (k2 : FnOK Try.prog 68 [.d (.sl (s.cm.map ivD))] [] (.own 0 2) [.row 2 (s.cm.map ivD)]) : FnOK Try.prog 33 ([.d (sqD s)]) ([]) (.agg [.d (.int .i64 s.b), .d (.str s.d), .d (.int .i64 s.n), .own 0 5, .d (.sl (s.cm.map ivD))]) ([.row 5 (s.fl.map ckD)]) := by
  refine fnOK_wp (p := ((0 : Int) ≤ (0 : Int) ∧ (0 : Int) ≤ (↑(List.map ckD s.fl).length : Int) ∧ (↑(List.map ckD s.fl).length : Int) ≤ (↑(List.map ckD s.fl).length : Int) ∧ (↑(List.map ckD s.fl).length : Int) ≤ (↑(List.map ckD s.fl).length : Int)) ∧ ((∀ (e : D), e ∈ List.map ckD s.fl → e.cells.length = 5) ∧ ((FnOK Try.prog 70 [AV.d (.sl (List.drop 0 (List.take (↑(List.map ckD s.fl).length : Int).toNat (List.map ckD s.fl))))] [] (AV.own 0 5) [Ob.row 5 (List.map ckD s.fl)]) ∧ ((FnOK Try.prog 68 [AV.d (.sl (List.map ivD s.cm))] [] (AV.own 0 2) [Ob.row 2 (List.map ivD s.cm)]) ∧ ((AV.agg [AV.d (.int .i64 s.b), AV.d (.str s.d), AV.d (.int .i64 s.n), AV.own 1096 5, AV.d (.sl (List.map ivD s.cm))] = AV.agg [AV.d (.int .i64 s.b), AV.d (.str s.d), AV.d (.int .i64 s.n), AV.own 1096 5, AV.d (.sl (List.map ivD s.cm))]) ∧ ((Ob.row 5 (List.map ckD s.fl) = Ob.row 5 (List.map ckD s.fl)) ∧ (True))))))) (h := {W := [(3, [.freeze 1128])], H := [(1, [(9, .call [] (.own 0 5) [.row 5 (s.fl.map ckD)])]), (2, [(2, .call [] (.own 0 2) [.row 2 (s.cm.map ivD)])])]}) (subs := []) (ws := []) (ρ := []) (by kernel_rfl) ?_
  try simp only [Int.toNat_natCast, List.take_length]
  repeat' (with_reducible first | exact True.intro | apply And.intro | (first | apply zA | apply zB | apply zC | apply zD | apply zE | apply zF | apply zG) <;> intro)
  all_goals first | exact k1 | exact k2 | exact ckD_sz _ | rfl | omega | (rw [List.take_length]; done) | (simp; done) | skip

theorem ownD (s : Sq) (h : SqOk s) : FnOK Try.prog 33 [.d (sqD s)] [] (.d (sqD s)) [] := own33 s (ckD_clone s.fl (by have := h.fl; omega)) (ivD_clone s.cm (by have := h.cm; omega))
theorem ownH (s : Sq) (h : SqOk s) : FnOK Try.prog 33 [.d (sqD s)] [] (.agg [.d (.int .i64 s.b), .d (.str s.d), .d (.int .i64 s.n), .own 0 5, .d (.sl (s.cm.map ivD))]) [.row 5 (s.fl.map ckD)] := own33h s (ckD_clone s.fl (by have := h.fl; omega)) (ivD_clone s.cm (by have := h.cm; omega))
/-! ### Write -/
def wrN (s : Sq) (x : List UInt8) : Int := min (x.length : Int) (4096 - (s.d.length : Int))
def rWrite (s : Sq) (x : List UInt8) : Sq × Int :=
  if sChk s ≠ 0 then (s, 0) else if s.b + (s.d.length : Int) > lastP - wrN s x then (s, 0) else ({ s with d := s.d ++ x.take (wrN s x).toNat }, wrN s x)
set_option maxRecDepth 100000 in
set_option maxHeartbeats 1000000 in
theorem write10a (s : Sq) (x : List UInt8) (e : Int) (k1 : FnOK Try.prog 28 [.d (sqD s)] [] (.d (.int .i64 e)) []) (k2 : FnOK Try.prog 33 [.d (sqD s)] [] (.d (sqD s)) []) (he : e ≠ 0) (k3 hm hq : True) : FnOK Try.prog 10 ([.d (sqD s), .d (.str x)]) ([]) (.tup [.d (sqD s), .d (.int .i64 0)]) ([]) := by
  refine fnOK_wp (p := (FnOK Try.prog 28 [AV.d (.agg [D.int .i64 s.b, D.str s.d, D.int .i64 s.n, D.sl (List.map ckD s.fl), D.sl (List.map ivD s.cm)])] [] (AV.d (.int .i64 e)) []) ∧ ((D.bool (e != (0 : Int)) = D.bool true) ∧ ((FnOK Try.prog 33 [AV.d (.agg [D.int .i64 s.b, D.str s.d, D.int .i64 s.n, D.sl (List.map ckD s.fl), D.sl (List.map ivD s.cm)])] [] (AV.d (.agg [D.int .i64 s.b, D.str s.d, D.int .i64 s.n, D.sl (List.map ckD s.fl), D.sl (List.map ivD s.cm)])) []) ∧ ((AV.tup [AV.d (.agg [D.int .i64 s.b, D.str s.d, D.int .i64 s.n, D.sl (List.map ckD s.fl), D.sl (List.map ivD s.cm)]), AV.d (.int .i64 (0 : Int))] = AV.tup [AV.d (.agg [D.int .i64 s.b, D.str s.d, D.int .i64 s.n, D.sl (List.map ckD s.fl), D.sl (List.map ivD s.cm)]), AV.d (.int .i64 (0 : Int))]) ∧ (True))))) (h := {G := [(28, gAns (.d (.int .i64 e))), (33, gAns (.d (sqD s)))], H := [(1, [(2, .val (.bool true))])]}) (subs := []) (ws := []) (ρ := []) (by kernel_rfl) ?_
  repeat' (with_reducible first | exact True.intro | apply And.intro | (first | apply zA | apply zB | apply zC | apply zD | apply zE | apply zF | apply zG) <;> intro)
  all_goals first | exact k1 | exact k2 | exact k3 | exact congrArg (D.int .i64) hm | rfl | omega | exact dyes (by omega) | exact dno (by omega) | (refine congrArg D.bool ?_; simp [he]; done) | (refine congrArg D.bool ?_; exact hq) | (simp; omega) | skip

set_option maxRecDepth 100000 in
set_option maxHeartbeats 1000000 in
theorem write10b (s : Sq) (x : List UInt8) (e : Int) (k1 : FnOK Try.prog 28 [.d (sqD s)] [] (.d (.int .i64 e)) []) (k2 : FnOK Try.prog 33 [.d (sqD s)] [] (.d (sqD s)) []) (he : e = 0) (r m : Int) (k3 : FnOK Try.prog 26 [.d (sqD s)] [] (.d (.int .i64 r)) []) (hm : min (x.length : Int) r = m) (hq : decide (IntKind.i64.wrap (s.b + (s.d.length : Int)) > IntKind.i64.wrap (1099511623680 - m)) = true) : FnOK Try.prog 10 ([.d (sqD s), .d (.str x)]) ([]) (.tup [.d (sqD s), .d (.int .i64 0)]) ([]) := by
  refine fnOK_wp (p := (FnOK Try.prog 28 [AV.d (.agg [D.int .i64 s.b, D.str s.d, D.int .i64 s.n, D.sl (List.map ckD s.fl), D.sl (List.map ivD s.cm)])] [] (AV.d (.int .i64 e)) []) ∧ ((D.bool (e != (0 : Int)) = D.bool false) ∧ ((FnOK Try.prog 26 [AV.d (.agg [D.int .i64 s.b, D.str s.d, D.int .i64 s.n, D.sl (List.map ckD s.fl), D.sl (List.map ivD s.cm)])] [] (AV.d (.int .i64 r)) []) ∧ ((D.int .i64 (min (↑x.length : Int) r) = D.int .i64 m) ∧ ((D.bool (decide (IntKind.i64.wrap (s.b + (↑s.d.length : Int)) > IntKind.i64.wrap ((1099511623680 : Int) - m))) = D.bool true) ∧ ((FnOK Try.prog 33 [AV.d (.agg [D.int .i64 s.b, D.str s.d, D.int .i64 s.n, D.sl (List.map ckD s.fl), D.sl (List.map ivD s.cm)])] [] (AV.d (.agg [D.int .i64 s.b, D.str s.d, D.int .i64 s.n, D.sl (List.map ckD s.fl), D.sl (List.map ivD s.cm)])) []) ∧ ((AV.tup [AV.d (.agg [D.int .i64 s.b, D.str s.d, D.int .i64 s.n, D.sl (List.map ckD s.fl), D.sl (List.map ivD s.cm)]), AV.d (.int .i64 (0 : Int))] = AV.tup [AV.d (.agg [D.int .i64 s.b, D.str s.d, D.int .i64 s.n, D.sl (List.map ckD s.fl), D.sl (List.map ivD s.cm)]), AV.d (.int .i64 (0 : Int))]) ∧ (True)))))))) (h := {G := [(28, gAns (.d (.int .i64 e))), (33, gAns (.d (sqD s))), (26, gAns (.d (.int .i64 r)))], H := [(1, [(2, .val (.bool false))]), (3, [(4, .val (.int .i64 m))]), (4, [(8, .val (.bool true))])]}) (subs := []) (ws := []) (ρ := []) (by kernel_rfl) ?_
  repeat' (with_reducible first | exact True.intro | apply And.intro | (first | apply zA | apply zB | apply zC | apply zD | apply zE | apply zF | apply zG) <;> intro)
  all_goals first | exact k1 | exact k2 | exact k3 | exact congrArg (D.int .i64) hm | rfl | omega | exact dyes (by omega) | exact dno (by omega) | (refine congrArg D.bool ?_; simp [he]; done) | (refine congrArg D.bool ?_; exact hq) | (simp; omega) | skip

set_option maxRecDepth 100000 in
set_option maxHeartbeats 1000000 in
theorem write10c (s : Sq) (x : List UInt8) (e : Int) (k1 : FnOK Try.prog 28 [.d (sqD s)] [] (.d (.int .i64 e)) []) (k2 : FnOK Try.prog 33 [.d (sqD s)] [] (.d (sqD s)) []) (he : e = 0) (r m : Int) (k3 : FnOK Try.prog 26 [.d (sqD s)] [] (.d (.int .i64 r)) []) (hm : min (x.length : Int) r = m) (hm0 : 0 ≤ m) (hm1 : m ≤ x.length) (hsd : s.d.length < 100000) (hxl : x.length < 100000000) (hq : decide (IntKind.i64.wrap (s.b + (s.d.length : Int)) > IntKind.i64.wrap (1099511623680 - m)) = false) : FnOK Try.prog 10 ([.d (sqD s), .d (.str x)]) ([]) (.tup [.d (sqD { s with d := s.d ++ x.take m.toNat }), .d (.int .i64 m)]) ([]) := by
  refine fnOK_wp (p := (FnOK Try.prog 28 [AV.d (.agg [D.int .i64 s.b, D.str s.d, D.int .i64 s.n, D.sl (List.map ckD s.fl), D.sl (List.map ivD s.cm)])] [] (AV.d (.int .i64 e)) []) ∧ ((D.bool (e != (0 : Int)) = D.bool false) ∧ ((FnOK Try.prog 26 [AV.d (.agg [D.int .i64 s.b, D.str s.d, D.int .i64 s.n, D.sl (List.map ckD s.fl), D.sl (List.map ivD s.cm)])] [] (AV.d (.int .i64 r)) []) ∧ ((D.int .i64 (min (↑x.length : Int) r) = D.int .i64 m) ∧ ((D.bool (decide (IntKind.i64.wrap (s.b + (↑s.d.length : Int)) > IntKind.i64.wrap ((1099511623680 : Int) - m))) = D.bool false) ∧ ((FnOK Try.prog 33 [AV.d (.agg [D.int .i64 s.b, D.str s.d, D.int .i64 s.n, D.sl (List.map ckD s.fl), D.sl (List.map ivD s.cm)])] [] (AV.d (.agg [D.int .i64 s.b, D.str s.d, D.int .i64 s.n, D.sl (List.map ckD s.fl), D.sl (List.map ivD s.cm)])) []) ∧ (((0 : Int) ≤ (0 : Int) ∧ (0 : Int) ≤ m ∧ m ≤ (↑x.length : Int)) ∧ (((↑(s.d.length + (List.drop 0 (List.take m.toNat x)).length) : Int) ≤ (9223372036854775807 : Int)) ∧ ((AV.tup [AV.d (.agg [D.int .i64 s.b, D.str (s.d ++ List.drop 0 (List.take m.toNat x)), D.int .i64 s.n, D.sl (List.map ckD s.fl), D.sl (List.map ivD s.cm)]), AV.d (.int .i64 m)] = AV.tup [AV.d (.agg [D.int .i64 (Sq.mk s.b (s.d ++ List.take m.toNat x) s.n s.fl s.cm).b, D.str (Sq.mk s.b (s.d ++ List.take m.toNat x) s.n s.fl s.cm).d, D.int .i64 (Sq.mk s.b (s.d ++ List.take m.toNat x) s.n s.fl s.cm).n, D.sl (List.map ckD (Sq.mk s.b (s.d ++ List.take m.toNat x) s.n s.fl s.cm).fl), D.sl (List.map ivD (Sq.mk s.b (s.d ++ List.take m.toNat x) s.n s.fl s.cm).cm)]), AV.d (.int .i64 m)]) ∧ (True)))))))))) (h := {G := [(28, gAns (.d (.int .i64 e))), (33, gAns (.d (sqD s))), (26, gAns (.d (.int .i64 r)))], H := [(1, [(2, .val (.bool false))]), (3, [(4, .val (.int .i64 m))]), (4, [(8, .val (.bool false))])]}) (subs := []) (ws := []) (ρ := []) (by kernel_rfl) ?_
  have hmx : IntKind.i64.max = 9223372036854775807 := by decide
  repeat' (with_reducible first | exact True.intro | apply And.intro | (first | apply zA | apply zB | apply zC | apply zD | apply zE | apply zF | apply zG) <;> intro)
  all_goals first | exact k1 | exact k2 | exact k3 | exact congrArg (D.int .i64) hm | rfl | omega | exact dyes (by omega) | exact dno (by omega) | (refine congrArg D.bool ?_; simp [he]; done) | (refine congrArg D.bool ?_; exact hq) | (simp; omega) | skip

theorem write10 (s : Sq) (h : SqOk s) (x : List UInt8) (hx : x.length < 100000000) : FnOK Try.prog 10 [.d (sqD s), .d (.str x)] [] (.tup [.d (sqD (rWrite s x).1), .d (.int .i64 (rWrite s x).2)]) [] := by
  have k1 := chk28 s (by have := h.fl; omega) (by have := h.cm; omega)
  have k2 := ownD s h
  have k3 := room26 s trivial trivial
  unfold rWrite
  by_cases he : sChk s = 0
  · obtain ⟨⟨c1, c2, c3, c4⟩, c5, -⟩ := sChk_ok h.n.2 he
    rw [if_neg (by omega)]
    have e1 : IntKind.i64.wrap (4096 - (s.d.length : Int)) = 4096 - (s.d.length : Int) := wrap_in (by omega) (by omega)
    rw [e1] at k3
    have hN : wrN s x = min (x.length : Int) (4096 - (s.d.length : Int)) := rfl
    have e2 : IntKind.i64.wrap (s.b + (s.d.length : Int)) = s.b + (s.d.length : Int) := wrap_in (by omega) (by unfold lastP at c2; omega)
    have e3 : IntKind.i64.wrap (1099511623680 - wrN s x) = lastP - wrN s x := wrap_in (by omega) (by omega)
    by_cases g : s.b + (s.d.length : Int) > lastP - wrN s x
    · rw [if_pos g]
      exact write10b s x _ k1 k2 he _ (wrN s x) k3 rfl (by rw [e2, e3]; exact decide_eq_true g)
    · rw [if_neg g]
      exact write10c s x _ k1 k2 he _ (wrN s x) k3 rfl (by omega) (by omega) (by have := h.d; omega) hx (by rw [e2, e3]; exact decide_eq_false g)
  · rw [if_pos he]
    exact write10a s x _ k1 k2 he trivial trivial trivial
/-! ### Sending again -/
def again (c : Ck) (now : Int) : Ck := ⟨c.f, c.t, now, min (IntKind.i64.wrap (c.r + 1)) 1073741824, false⟩
set_option maxRecDepth 100000 in
set_option maxHeartbeats 1000000 in
theorem rep38 (s : Sq) (i : Nat) (now : Int) (c : Ck) (hn : s.fl[i]? = some c) (t : List UInt8) (k1 : FnOK Try.prog 39 [.d (sqD { s with fl := s.fl.set i (again c now) }), .d (ckD (again c now))] [] (.d (.str t)) []) : FnOK Try.prog 38 ([.agg [.d (.int .i64 s.b), .d (.str s.d), .d (.int .i64 s.n), .own 0 5, .d (.sl (s.cm.map ivD))], .d (.int .i64 i), .d (.int .i64 now)]) ([.row 5 (s.fl.map ckD)]) (.tup [.agg [.d (.int .i64 s.b), .d (.str s.d), .d (.int .i64 s.n), .own 0 5, .d (.sl (s.cm.map ivD))], .d (ckD (again c now)), .d (.str t)]) ([.row 5 ((s.fl.set i (again c now)).map ckD)]) := by
  refine fnOK_wp (p := ((0 : Int) ≤ (↑i : Int) ∧ (↑i : Int) < (↑(List.map ckD s.fl).length : Int)) ∧ ((List.map ckD s.fl ≠ []) ∧ (((↑i : Int).toNat < (List.map ckD s.fl).length) ∧ ((5 = 5) ∧ (((List.map ckD s.fl)[(↑i : Int).toNat]? = some (D.agg [D.int .i64 c.f, D.int .i64 c.t, D.int .i64 c.s, D.int .i64 c.r, D.bool c.l])) ∧ (((List.map ckD s.fl).set (↑i : Int).toNat (D.agg (List.take 2 [D.int .i64 c.f, D.int .i64 c.t, D.int .i64 c.s, D.int .i64 c.r, D.bool c.l] ++ [D.int .i64 now] ++ List.drop (2 + [D.int .i64 now].length) [D.int .i64 c.f, D.int .i64 c.t, D.int .i64 c.s, D.int .i64 c.r, D.bool c.l])) ≠ []) ∧ (((↑i : Int).toNat < ((List.map ckD s.fl).set (↑i : Int).toNat (D.agg (List.take 2 [D.int .i64 c.f, D.int .i64 c.t, D.int .i64 c.s, D.int .i64 c.r, D.bool c.l] ++ [D.int .i64 now] ++ List.drop (2 + [D.int .i64 now].length) [D.int .i64 c.f, D.int .i64 c.t, D.int .i64 c.s, D.int .i64 c.r, D.bool c.l]))).length) ∧ ((5 = 5) ∧ ((((List.map ckD s.fl).set (↑i : Int).toNat (D.agg (List.take 2 [D.int .i64 c.f, D.int .i64 c.t, D.int .i64 c.s, D.int .i64 c.r, D.bool c.l] ++ [D.int .i64 now] ++ List.drop (2 + [D.int .i64 now].length) [D.int .i64 c.f, D.int .i64 c.t, D.int .i64 c.s, D.int .i64 c.r, D.bool c.l])))[(↑i : Int).toNat]? = some (D.agg [D.int .i64 (Ck.mk c.f c.t now c.r c.l).f, D.int .i64 (Ck.mk c.f c.t now c.r c.l).t, D.int .i64 (Ck.mk c.f c.t now c.r c.l).s, D.int .i64 (Ck.mk c.f c.t now c.r c.l).r, D.bool (Ck.mk c.f c.t now c.r c.l).l])) ∧ ((((List.map ckD s.fl).set (↑i : Int).toNat (D.agg (List.take 2 [D.int .i64 c.f, D.int .i64 c.t, D.int .i64 c.s, D.int .i64 c.r, D.bool c.l] ++ [D.int .i64 now] ++ List.drop (2 + [D.int .i64 now].length) [D.int .i64 c.f, D.int .i64 c.t, D.int .i64 c.s, D.int .i64 c.r, D.bool c.l]))).set (↑i : Int).toNat (D.agg (List.take 4 [D.int .i64 (Ck.mk c.f c.t now c.r c.l).f, D.int .i64 (Ck.mk c.f c.t now c.r c.l).t, D.int .i64 (Ck.mk c.f c.t now c.r c.l).s, D.int .i64 (Ck.mk c.f c.t now c.r c.l).r, D.bool (Ck.mk c.f c.t now c.r c.l).l] ++ [D.bool false] ++ List.drop 5 [D.int .i64 (Ck.mk c.f c.t now c.r c.l).f, D.int .i64 (Ck.mk c.f c.t now c.r c.l).t, D.int .i64 (Ck.mk c.f c.t now c.r c.l).s, D.int .i64 (Ck.mk c.f c.t now c.r c.l).r, D.bool (Ck.mk c.f c.t now c.r c.l).l])) ≠ []) ∧ (((↑i : Int).toNat < (((List.map ckD s.fl).set (↑i : Int).toNat (D.agg (List.take 2 [D.int .i64 c.f, D.int .i64 c.t, D.int .i64 c.s, D.int .i64 c.r, D.bool c.l] ++ [D.int .i64 now] ++ List.drop (2 + [D.int .i64 now].length) [D.int .i64 c.f, D.int .i64 c.t, D.int .i64 c.s, D.int .i64 c.r, D.bool c.l]))).set (↑i : Int).toNat (D.agg (List.take 4 [D.int .i64 (Ck.mk c.f c.t now c.r c.l).f, D.int .i64 (Ck.mk c.f c.t now c.r c.l).t, D.int .i64 (Ck.mk c.f c.t now c.r c.l).s, D.int .i64 (Ck.mk c.f c.t now c.r c.l).r, D.bool (Ck.mk c.f c.t now c.r c.l).l] ++ [D.bool false] ++ List.drop 5 [D.int .i64 (Ck.mk c.f c.t now c.r c.l).f, D.int .i64 (Ck.mk c.f c.t now c.r c.l).t, D.int .i64 (Ck.mk c.f c.t now c.r c.l).s, D.int .i64 (Ck.mk c.f c.t now c.r c.l).r, D.bool (Ck.mk c.f c.t now c.r c.l).l]))).length) ∧ ((5 = 5) ∧ (((((List.map ckD s.fl).set (↑i : Int).toNat (D.agg (List.take 2 [D.int .i64 c.f, D.int .i64 c.t, D.int .i64 c.s, D.int .i64 c.r, D.bool c.l] ++ [D.int .i64 now] ++ List.drop (2 + [D.int .i64 now].length) [D.int .i64 c.f, D.int .i64 c.t, D.int .i64 c.s, D.int .i64 c.r, D.bool c.l]))).set (↑i : Int).toNat (D.agg (List.take 4 [D.int .i64 (Ck.mk c.f c.t now c.r c.l).f, D.int .i64 (Ck.mk c.f c.t now c.r c.l).t, D.int .i64 (Ck.mk c.f c.t now c.r c.l).s, D.int .i64 (Ck.mk c.f c.t now c.r c.l).r, D.bool (Ck.mk c.f c.t now c.r c.l).l] ++ [D.bool false] ++ List.drop 5 [D.int .i64 (Ck.mk c.f c.t now c.r c.l).f, D.int .i64 (Ck.mk c.f c.t now c.r c.l).t, D.int .i64 (Ck.mk c.f c.t now c.r c.l).s, D.int .i64 (Ck.mk c.f c.t now c.r c.l).r, D.bool (Ck.mk c.f c.t now c.r c.l).l])))[(↑i : Int).toNat]? = some (D.agg [D.int .i64 (Ck.mk c.f c.t now c.r false).f, D.int .i64 (Ck.mk c.f c.t now c.r false).t, D.int .i64 (Ck.mk c.f c.t now c.r false).s, D.int .i64 (Ck.mk c.f c.t now c.r false).r, D.bool false])) ∧ ((((List.map ckD s.fl).set (↑i : Int).toNat (D.agg (List.take 2 [D.int .i64 c.f, D.int .i64 c.t, D.int .i64 c.s, D.int .i64 c.r, D.bool c.l] ++ [D.int .i64 now] ++ List.drop (2 + [D.int .i64 now].length) [D.int .i64 c.f, D.int .i64 c.t, D.int .i64 c.s, D.int .i64 c.r, D.bool c.l]))).set (↑i : Int).toNat (D.agg (List.take 4 [D.int .i64 (Ck.mk c.f c.t now c.r c.l).f, D.int .i64 (Ck.mk c.f c.t now c.r c.l).t, D.int .i64 (Ck.mk c.f c.t now c.r c.l).s, D.int .i64 (Ck.mk c.f c.t now c.r c.l).r, D.bool (Ck.mk c.f c.t now c.r c.l).l] ++ [D.bool false] ++ List.drop 5 [D.int .i64 (Ck.mk c.f c.t now c.r c.l).f, D.int .i64 (Ck.mk c.f c.t now c.r c.l).t, D.int .i64 (Ck.mk c.f c.t now c.r c.l).s, D.int .i64 (Ck.mk c.f c.t now c.r c.l).r, D.bool (Ck.mk c.f c.t now c.r c.l).l])) ≠ []) ∧ (((↑i : Int).toNat < (((List.map ckD s.fl).set (↑i : Int).toNat (D.agg (List.take 2 [D.int .i64 c.f, D.int .i64 c.t, D.int .i64 c.s, D.int .i64 c.r, D.bool c.l] ++ [D.int .i64 now] ++ List.drop (2 + [D.int .i64 now].length) [D.int .i64 c.f, D.int .i64 c.t, D.int .i64 c.s, D.int .i64 c.r, D.bool c.l]))).set (↑i : Int).toNat (D.agg (List.take 4 [D.int .i64 (Ck.mk c.f c.t now c.r c.l).f, D.int .i64 (Ck.mk c.f c.t now c.r c.l).t, D.int .i64 (Ck.mk c.f c.t now c.r c.l).s, D.int .i64 (Ck.mk c.f c.t now c.r c.l).r, D.bool (Ck.mk c.f c.t now c.r c.l).l] ++ [D.bool false] ++ List.drop 5 [D.int .i64 (Ck.mk c.f c.t now c.r c.l).f, D.int .i64 (Ck.mk c.f c.t now c.r c.l).t, D.int .i64 (Ck.mk c.f c.t now c.r c.l).s, D.int .i64 (Ck.mk c.f c.t now c.r c.l).r, D.bool (Ck.mk c.f c.t now c.r c.l).l]))).length) ∧ ((5 = 5) ∧ (((((List.map ckD s.fl).set (↑i : Int).toNat (D.agg (List.take 2 [D.int .i64 c.f, D.int .i64 c.t, D.int .i64 c.s, D.int .i64 c.r, D.bool c.l] ++ [D.int .i64 now] ++ List.drop (2 + [D.int .i64 now].length) [D.int .i64 c.f, D.int .i64 c.t, D.int .i64 c.s, D.int .i64 c.r, D.bool c.l]))).set (↑i : Int).toNat (D.agg (List.take 4 [D.int .i64 (Ck.mk c.f c.t now c.r c.l).f, D.int .i64 (Ck.mk c.f c.t now c.r c.l).t, D.int .i64 (Ck.mk c.f c.t now c.r c.l).s, D.int .i64 (Ck.mk c.f c.t now c.r c.l).r, D.bool (Ck.mk c.f c.t now c.r c.l).l] ++ [D.bool false] ++ List.drop 5 [D.int .i64 (Ck.mk c.f c.t now c.r c.l).f, D.int .i64 (Ck.mk c.f c.t now c.r c.l).t, D.int .i64 (Ck.mk c.f c.t now c.r c.l).s, D.int .i64 (Ck.mk c.f c.t now c.r c.l).r, D.bool (Ck.mk c.f c.t now c.r c.l).l])))[(↑i : Int).toNat]? = some (D.agg [D.int .i64 (Ck.mk c.f c.t now c.r false).f, D.int .i64 (Ck.mk c.f c.t now c.r false).t, D.int .i64 (Ck.mk c.f c.t now c.r false).s, D.int .i64 (Ck.mk c.f c.t now c.r false).r, D.bool false])) ∧ (((((List.map ckD s.fl).set (↑i : Int).toNat (D.agg (List.take 2 [D.int .i64 c.f, D.int .i64 c.t, D.int .i64 c.s, D.int .i64 c.r, D.bool c.l] ++ [D.int .i64 now] ++ List.drop (2 + [D.int .i64 now].length) [D.int .i64 c.f, D.int .i64 c.t, D.int .i64 c.s, D.int .i64 c.r, D.bool c.l]))).set (↑i : Int).toNat (D.agg (List.take 4 [D.int .i64 (Ck.mk c.f c.t now c.r c.l).f, D.int .i64 (Ck.mk c.f c.t now c.r c.l).t, D.int .i64 (Ck.mk c.f c.t now c.r c.l).s, D.int .i64 (Ck.mk c.f c.t now c.r c.l).r, D.bool (Ck.mk c.f c.t now c.r c.l).l] ++ [D.bool false] ++ List.drop 5 [D.int .i64 (Ck.mk c.f c.t now c.r c.l).f, D.int .i64 (Ck.mk c.f c.t now c.r c.l).t, D.int .i64 (Ck.mk c.f c.t now c.r c.l).s, D.int .i64 (Ck.mk c.f c.t now c.r c.l).r, D.bool (Ck.mk c.f c.t now c.r c.l).l]))).set (↑i : Int).toNat (D.agg (List.take 3 [D.int .i64 (Ck.mk c.f c.t now c.r false).f, D.int .i64 (Ck.mk c.f c.t now c.r false).t, D.int .i64 (Ck.mk c.f c.t now c.r false).s, D.int .i64 (Ck.mk c.f c.t now c.r false).r, D.bool (Ck.mk c.f c.t now c.r false).l] ++ [D.int .i64 (min (IntKind.i64.wrap ((Ck.mk c.f c.t now c.r false).r + (1 : Int))) (1073741824 : Int))] ++ List.drop (3 + [D.int .i64 (min (IntKind.i64.wrap ((Ck.mk c.f c.t now c.r false).r + (1 : Int))) (1073741824 : Int))].length) [D.int .i64 (Ck.mk c.f c.t now c.r false).f, D.int .i64 (Ck.mk c.f c.t now c.r false).t, D.int .i64 (Ck.mk c.f c.t now c.r false).s, D.int .i64 (Ck.mk c.f c.t now c.r false).r, D.bool (Ck.mk c.f c.t now c.r false).l])) ≠ []) ∧ ((5 = 5) ∧ ((((((List.map ckD s.fl).set (↑i : Int).toNat (D.agg (List.take 2 [D.int .i64 c.f, D.int .i64 c.t, D.int .i64 c.s, D.int .i64 c.r, D.bool c.l] ++ [D.int .i64 now] ++ List.drop (2 + [D.int .i64 now].length) [D.int .i64 c.f, D.int .i64 c.t, D.int .i64 c.s, D.int .i64 c.r, D.bool c.l]))).set (↑i : Int).toNat (D.agg (List.take 4 [D.int .i64 (Ck.mk c.f c.t now c.r c.l).f, D.int .i64 (Ck.mk c.f c.t now c.r c.l).t, D.int .i64 (Ck.mk c.f c.t now c.r c.l).s, D.int .i64 (Ck.mk c.f c.t now c.r c.l).r, D.bool (Ck.mk c.f c.t now c.r c.l).l] ++ [D.bool false] ++ List.drop 5 [D.int .i64 (Ck.mk c.f c.t now c.r c.l).f, D.int .i64 (Ck.mk c.f c.t now c.r c.l).t, D.int .i64 (Ck.mk c.f c.t now c.r c.l).s, D.int .i64 (Ck.mk c.f c.t now c.r c.l).r, D.bool (Ck.mk c.f c.t now c.r c.l).l]))).set (↑i : Int).toNat (D.agg (List.take 3 [D.int .i64 (Ck.mk c.f c.t now c.r false).f, D.int .i64 (Ck.mk c.f c.t now c.r false).t, D.int .i64 (Ck.mk c.f c.t now c.r false).s, D.int .i64 (Ck.mk c.f c.t now c.r false).r, D.bool (Ck.mk c.f c.t now c.r false).l] ++ [D.int .i64 (min (IntKind.i64.wrap ((Ck.mk c.f c.t now c.r false).r + (1 : Int))) (1073741824 : Int))] ++ List.drop (3 + [D.int .i64 (min (IntKind.i64.wrap ((Ck.mk c.f c.t now c.r false).r + (1 : Int))) (1073741824 : Int))].length) [D.int .i64 (Ck.mk c.f c.t now c.r false).f, D.int .i64 (Ck.mk c.f c.t now c.r false).t, D.int .i64 (Ck.mk c.f c.t now c.r false).s, D.int .i64 (Ck.mk c.f c.t now c.r false).r, D.bool (Ck.mk c.f c.t now c.r false).l])))[(↑i : Int).toNat]? = some (D.agg [D.int .i64 (again c now).f, D.int .i64 (again c now).t, D.int .i64 (again c now).s, D.int .i64 (again c now).r, D.bool false])) ∧ (((((List.map ckD s.fl).set (↑i : Int).toNat (D.agg (List.take 2 [D.int .i64 c.f, D.int .i64 c.t, D.int .i64 c.s, D.int .i64 c.r, D.bool c.l] ++ [D.int .i64 now] ++ List.drop (2 + [D.int .i64 now].length) [D.int .i64 c.f, D.int .i64 c.t, D.int .i64 c.s, D.int .i64 c.r, D.bool c.l]))).set (↑i : Int).toNat (D.agg (List.take 4 [D.int .i64 (Ck.mk c.f c.t now c.r c.l).f, D.int .i64 (Ck.mk c.f c.t now c.r c.l).t, D.int .i64 (Ck.mk c.f c.t now c.r c.l).s, D.int .i64 (Ck.mk c.f c.t now c.r c.l).r, D.bool (Ck.mk c.f c.t now c.r c.l).l] ++ [D.bool false] ++ List.drop 5 [D.int .i64 (Ck.mk c.f c.t now c.r c.l).f, D.int .i64 (Ck.mk c.f c.t now c.r c.l).t, D.int .i64 (Ck.mk c.f c.t now c.r c.l).s, D.int .i64 (Ck.mk c.f c.t now c.r c.l).r, D.bool (Ck.mk c.f c.t now c.r c.l).l]))).set (↑i : Int).toNat (D.agg (List.take 3 [D.int .i64 (Ck.mk c.f c.t now c.r false).f, D.int .i64 (Ck.mk c.f c.t now c.r false).t, D.int .i64 (Ck.mk c.f c.t now c.r false).s, D.int .i64 (Ck.mk c.f c.t now c.r false).r, D.bool (Ck.mk c.f c.t now c.r false).l] ++ [D.int .i64 (min (IntKind.i64.wrap ((Ck.mk c.f c.t now c.r false).r + (1 : Int))) (1073741824 : Int))] ++ List.drop (3 + [D.int .i64 (min (IntKind.i64.wrap ((Ck.mk c.f c.t now c.r false).r + (1 : Int))) (1073741824 : Int))].length) [D.int .i64 (Ck.mk c.f c.t now c.r false).f, D.int .i64 (Ck.mk c.f c.t now c.r false).t, D.int .i64 (Ck.mk c.f c.t now c.r false).s, D.int .i64 (Ck.mk c.f c.t now c.r false).r, D.bool (Ck.mk c.f c.t now c.r false).l])) ≠ []) ∧ ((5 = 5) ∧ ((((((List.map ckD s.fl).set (↑i : Int).toNat (D.agg (List.take 2 [D.int .i64 c.f, D.int .i64 c.t, D.int .i64 c.s, D.int .i64 c.r, D.bool c.l] ++ [D.int .i64 now] ++ List.drop (2 + [D.int .i64 now].length) [D.int .i64 c.f, D.int .i64 c.t, D.int .i64 c.s, D.int .i64 c.r, D.bool c.l]))).set (↑i : Int).toNat (D.agg (List.take 4 [D.int .i64 (Ck.mk c.f c.t now c.r c.l).f, D.int .i64 (Ck.mk c.f c.t now c.r c.l).t, D.int .i64 (Ck.mk c.f c.t now c.r c.l).s, D.int .i64 (Ck.mk c.f c.t now c.r c.l).r, D.bool (Ck.mk c.f c.t now c.r c.l).l] ++ [D.bool false] ++ List.drop 5 [D.int .i64 (Ck.mk c.f c.t now c.r c.l).f, D.int .i64 (Ck.mk c.f c.t now c.r c.l).t, D.int .i64 (Ck.mk c.f c.t now c.r c.l).s, D.int .i64 (Ck.mk c.f c.t now c.r c.l).r, D.bool (Ck.mk c.f c.t now c.r c.l).l]))).set (↑i : Int).toNat (D.agg (List.take 3 [D.int .i64 (Ck.mk c.f c.t now c.r false).f, D.int .i64 (Ck.mk c.f c.t now c.r false).t, D.int .i64 (Ck.mk c.f c.t now c.r false).s, D.int .i64 (Ck.mk c.f c.t now c.r false).r, D.bool (Ck.mk c.f c.t now c.r false).l] ++ [D.int .i64 (min (IntKind.i64.wrap ((Ck.mk c.f c.t now c.r false).r + (1 : Int))) (1073741824 : Int))] ++ List.drop (3 + [D.int .i64 (min (IntKind.i64.wrap ((Ck.mk c.f c.t now c.r false).r + (1 : Int))) (1073741824 : Int))].length) [D.int .i64 (Ck.mk c.f c.t now c.r false).f, D.int .i64 (Ck.mk c.f c.t now c.r false).t, D.int .i64 (Ck.mk c.f c.t now c.r false).s, D.int .i64 (Ck.mk c.f c.t now c.r false).r, D.bool (Ck.mk c.f c.t now c.r false).l])))[(↑i : Int).toNat]? = some (D.agg [D.int .i64 (again c now).f, D.int .i64 (again c now).t, D.int .i64 (again c now).s, D.int .i64 (again c now).r, D.bool false])) ∧ ((FnOK Try.prog 39 [AV.d (.agg [D.int .i64 s.b, D.str s.d, D.int .i64 s.n, D.sl ((((List.map ckD s.fl).set (↑i : Int).toNat (D.agg (List.take 2 [D.int .i64 c.f, D.int .i64 c.t, D.int .i64 c.s, D.int .i64 c.r, D.bool c.l] ++ [D.int .i64 now] ++ List.drop (2 + [D.int .i64 now].length) [D.int .i64 c.f, D.int .i64 c.t, D.int .i64 c.s, D.int .i64 c.r, D.bool c.l]))).set (↑i : Int).toNat (D.agg (List.take 4 [D.int .i64 (Ck.mk c.f c.t now c.r c.l).f, D.int .i64 (Ck.mk c.f c.t now c.r c.l).t, D.int .i64 (Ck.mk c.f c.t now c.r c.l).s, D.int .i64 (Ck.mk c.f c.t now c.r c.l).r, D.bool (Ck.mk c.f c.t now c.r c.l).l] ++ [D.bool false] ++ List.drop 5 [D.int .i64 (Ck.mk c.f c.t now c.r c.l).f, D.int .i64 (Ck.mk c.f c.t now c.r c.l).t, D.int .i64 (Ck.mk c.f c.t now c.r c.l).s, D.int .i64 (Ck.mk c.f c.t now c.r c.l).r, D.bool (Ck.mk c.f c.t now c.r c.l).l]))).set (↑i : Int).toNat (D.agg (List.take 3 [D.int .i64 (Ck.mk c.f c.t now c.r false).f, D.int .i64 (Ck.mk c.f c.t now c.r false).t, D.int .i64 (Ck.mk c.f c.t now c.r false).s, D.int .i64 (Ck.mk c.f c.t now c.r false).r, D.bool (Ck.mk c.f c.t now c.r false).l] ++ [D.int .i64 (min (IntKind.i64.wrap ((Ck.mk c.f c.t now c.r false).r + (1 : Int))) (1073741824 : Int))] ++ List.drop (3 + [D.int .i64 (min (IntKind.i64.wrap ((Ck.mk c.f c.t now c.r false).r + (1 : Int))) (1073741824 : Int))].length) [D.int .i64 (Ck.mk c.f c.t now c.r false).f, D.int .i64 (Ck.mk c.f c.t now c.r false).t, D.int .i64 (Ck.mk c.f c.t now c.r false).s, D.int .i64 (Ck.mk c.f c.t now c.r false).r, D.bool (Ck.mk c.f c.t now c.r false).l]))), D.sl (List.map ivD s.cm)]), AV.d (.agg [D.int .i64 (again c now).f, D.int .i64 (again c now).t, D.int .i64 (again c now).s, D.int .i64 (again c now).r, D.bool false])] [] (AV.d (.str t)) []) ∧ ((AV.tup [AV.agg [AV.d (.int .i64 s.b), AV.d (.str s.d), AV.d (.int .i64 s.n), AV.own 0 5, AV.d (.sl (List.map ivD s.cm))], AV.d (.agg [D.int .i64 (again c now).f, D.int .i64 (again c now).t, D.int .i64 (again c now).s, D.int .i64 (again c now).r, D.bool false]), AV.d (.str t)] = AV.tup [AV.agg [AV.d (.int .i64 s.b), AV.d (.str s.d), AV.d (.int .i64 s.n), AV.own 0 5, AV.d (.sl (List.map ivD s.cm))], AV.d (.agg [D.int .i64 (again c now).f, D.int .i64 (again c now).t, D.int .i64 (again c now).s, D.int .i64 (again c now).r, D.bool false]), AV.d (.str t)]) ∧ ((Ob.row 5 ((((List.map ckD s.fl).set (↑i : Int).toNat (D.agg (List.take 2 [D.int .i64 c.f, D.int .i64 c.t, D.int .i64 c.s, D.int .i64 c.r, D.bool c.l] ++ [D.int .i64 now] ++ List.drop (2 + [D.int .i64 now].length) [D.int .i64 c.f, D.int .i64 c.t, D.int .i64 c.s, D.int .i64 c.r, D.bool c.l]))).set (↑i : Int).toNat (D.agg (List.take 4 [D.int .i64 (Ck.mk c.f c.t now c.r c.l).f, D.int .i64 (Ck.mk c.f c.t now c.r c.l).t, D.int .i64 (Ck.mk c.f c.t now c.r c.l).s, D.int .i64 (Ck.mk c.f c.t now c.r c.l).r, D.bool (Ck.mk c.f c.t now c.r c.l).l] ++ [D.bool false] ++ List.drop 5 [D.int .i64 (Ck.mk c.f c.t now c.r c.l).f, D.int .i64 (Ck.mk c.f c.t now c.r c.l).t, D.int .i64 (Ck.mk c.f c.t now c.r c.l).s, D.int .i64 (Ck.mk c.f c.t now c.r c.l).r, D.bool (Ck.mk c.f c.t now c.r c.l).l]))).set (↑i : Int).toNat (D.agg (List.take 3 [D.int .i64 (Ck.mk c.f c.t now c.r false).f, D.int .i64 (Ck.mk c.f c.t now c.r false).t, D.int .i64 (Ck.mk c.f c.t now c.r false).s, D.int .i64 (Ck.mk c.f c.t now c.r false).r, D.bool (Ck.mk c.f c.t now c.r false).l] ++ [D.int .i64 (min (IntKind.i64.wrap ((Ck.mk c.f c.t now c.r false).r + (1 : Int))) (1073741824 : Int))] ++ List.drop (3 + [D.int .i64 (min (IntKind.i64.wrap ((Ck.mk c.f c.t now c.r false).r + (1 : Int))) (1073741824 : Int))].length) [D.int .i64 (Ck.mk c.f c.t now c.r false).f, D.int .i64 (Ck.mk c.f c.t now c.r false).t, D.int .i64 (Ck.mk c.f c.t now c.r false).s, D.int .i64 (Ck.mk c.f c.t now c.r false).r, D.bool (Ck.mk c.f c.t now c.r false).l]))) = Ob.row 5 (List.map ckD (s.fl.set i (again c now)))) ∧ (True))))))))))))))))))))))))))) (h := {els := [(18, .el (ckD c)), (20, .el (ckD { c with s := now })), (24, .el (ckD { c with s := now, l := false })), (29, .el (ckD { c with s := now, l := false })), (32, .el (ckD (again c now))), (36, .el (ckD (again c now)))], H := [(4, [(8, .call [] (.d (.str t)) [])])]}) (subs := []) (ws := []) (ρ := []) (by kernel_rfl) ?_
  have hj := get_lt hn
  have hne : s.fl.map ckD ≠ [] := fun e => by
    have := congrArg List.length e
    rw [List.length_map, List.length_nil] at this
    omega
  have hlt : i < (s.fl.map ckD).length := by rw [List.length_map]; exact hj
  have h0 : (s.fl.map ckD)[i]? = some (ckD c) := by rw [List.getElem?_map, hn]; rfl
  have hD : (s.fl.map ckD).set i (ckD (again c now)) = (s.fl.set i (again c now)).map ckD := (List.map_set ..).symm
  have hk : FnOK Try.prog 39 [.d (.agg [.int .i64 s.b, .str s.d, .int .i64 s.n, .sl ((s.fl.map ckD).set i (ckD (again c now))), .sl (s.cm.map ivD)]), .d (ckD (again c now))] [] (.d (.str t)) [] := by rw [hD]; exact k1
  have hg : ∀ x : D, ((s.fl.map ckD).set i x)[i]? = some x := fun x => by rw [List.getElem?_set, if_pos rfl, if_pos hlt]
  have hn' : ∀ x : D, (s.fl.map ckD).set i x ≠ [] := fun x => by simpa using hne
  have hl' : ∀ x : D, i < ((s.fl.map ckD).set i x).length := fun x => by rw [List.length_set]; exact hlt
  simp only [Int.toNat_natCast, List.set_set]
  repeat' (with_reducible first | exact True.intro | apply And.intro | (first | apply zA | apply zB | apply zC | apply zD | apply zE | apply zF | apply zG) <;> intro)
  all_goals first | exact hk | exact h0 | exact hg _ | exact hn' _ | exact hl' _ | exact hne | exact hlt | rfl | omega | exact hD | exact congrArg (Ob.row 5) hD | skip

theorem repeat38 (s : Sq) (i : Nat) (now : Int) (c : Ck) (hn : s.fl[i]? = some c) (x y : Int) (hx : IntKind.i64.wrap (c.f - s.b) = x) (hy : IntKind.i64.wrap (c.t - s.b) = y) (h0 : 0 ≤ x) (h1 : x ≤ y) (h2 : y ≤ s.d.length) :
    FnOK Try.prog 38 [.agg [.d (.int .i64 s.b), .d (.str s.d), .d (.int .i64 s.n), .own 0 5, .d (.sl (s.cm.map ivD))], .d (.int .i64 i), .d (.int .i64 now)] [.row 5 (s.fl.map ckD)] (.tup [.agg [.d (.int .i64 s.b), .d (.str s.d), .d (.int .i64 s.n), .own 0 5, .d (.sl (s.cm.map ivD))], .d (ckD (again c now)), .d (.str ((s.d.drop x.toNat).take (y.toNat - x.toNat)))]) [.row 5 ((s.fl.set i (again c now)).map ckD)] :=
  rep38 s i now c hn _ (text39 { s with fl := s.fl.set i (again c now) } (again c now) x y hx hy h0 h1 h2)
end Go.Proofs.Ytfllhedkgeljaaa
