/-
laws 31: rows cloned, joined, parted; a state with another row.
-/
import Derived.Test.YtoagghehabceaaaS1
set_option linter.unusedSimpArgs false
set_option linter.unusedVariables false
namespace Go.Proofs.Ytoagghehabceaaa
open Sx Go.RowKit

/-! ### Clone -/
set_option maxRecDepth 100000 in
set_option maxHeartbeats 1000000 in
theorem clone30p (l : List Pk) (hl : l.length < 1073741824) (hne : l.map pkD ≠ []) : FnOK Try.prog 30 ([.d (.sl (l.map pkD))]) ([]) (.own 0 3) ([.row 3 (l.map pkD)]) := by
  refine fnOK_wp (p := (D.bool false = D.bool false) ∧ ((List.map pkD l ≠ []) ∧ ((((0 : Nat) + (List.map pkD l).length) * (32 : Nat) ≤ (140737488355328 : Nat)) ∧ ((∀ (e : D), e ∈ List.map pkD l → e.cells.length = (3 : Nat)) ∧ ((AV.own (1056 : Nat) (3 : Nat) = AV.own (1056 : Nat) (3 : Nat)) ∧ ((Ob.row (3 : Nat) ([] ++ List.map pkD l) = Ob.row (3 : Nat) (List.map pkD l)) ∧ (True))))))) (h := {H := [(1, [(1, .val (.bool false))])]}) (subs := []) (ws := []) (ρ := []) (by kernel_rfl) ?_
  repeat' (first | with_reducible exact True.intro | with_reducible refine And.intro ?_ ?_ | with_reducible refine condP_dec (fun _ => ?_) (fun _ => ?_) | with_reducible refine condP_eq (fun _ => ?_) (fun _ => ?_) | with_reducible refine condP_ne (fun _ => ?_) (fun _ => ?_) | with_reducible refine condP_not (condP_dec (fun _ => ?_) (fun _ => ?_)) | with_reducible refine condP_not (condP_eq (fun _ => ?_) (fun _ => ?_)) | with_reducible refine condP_not (condP_intro (fun _ => ?_) (fun _ => ?_)) | with_reducible refine condP_intro (fun _ => ?_) (fun _ => ?_))
  all_goals first | exact hne | rfl | (simp; omega) | exact pkD_cells _ | skip

set_option maxRecDepth 100000 in
set_option maxHeartbeats 1000000 in
theorem clone30z (a : Option Addr) (c : Nat) : FnOK Try.prog 30 ([.raw (.slice a 0 c)]) ([]) (.own 0 3) ([.row 3 []]) := by
  refine fnOK_wp (p := condP (a.isNone) ((AV.own (900 : Nat) (3 : Nat) = AV.own (900 : Nat) (3 : Nat)) ∧ ((Ob.row (3 : Nat) [] = Ob.row (3 : Nat) []) ∧ (True))) (((0 : Nat) ≤ (140737488355328 : Nat)) ∧ ((∀ (e : D), e ∈ [] → e.cells.length = (3 : Nat)) ∧ ((AV.own (1056 : Nat) (3 : Nat) = AV.own (1056 : Nat) (3 : Nat)) ∧ ((Ob.row (3 : Nat) [] = Ob.row (3 : Nat) []) ∧ (True)))))) (h := {}) (subs := []) (ws := []) (ρ := []) (by kernel_rfl) ?_
  repeat' (first | with_reducible exact True.intro | with_reducible refine And.intro ?_ ?_ | with_reducible refine condP_dec (fun _ => ?_) (fun _ => ?_) | with_reducible refine condP_eq (fun _ => ?_) (fun _ => ?_) | with_reducible refine condP_ne (fun _ => ?_) (fun _ => ?_) | with_reducible refine condP_not (condP_dec (fun _ => ?_) (fun _ => ?_)) | with_reducible refine condP_not (condP_eq (fun _ => ?_) (fun _ => ?_)) | with_reducible refine condP_not (condP_intro (fun _ => ?_) (fun _ => ?_)) | with_reducible refine condP_intro (fun _ => ?_) (fun _ => ?_))
  all_goals first | rfl | (simp; done) | (intro e he; simp at he; done) | skip

theorem clone30 (l : List Pk) (hl : l.length < 1073741824) : FnOK Try.prog 30 [.d (.sl (l.map pkD))] [] (.own 0 3) [.row 3 (l.map pkD)] := by
  cases l with
  | nil => exact fnOK_nil fun a c => clone30z a c
  | cons x r => exact clone30p (x :: r) hl (by simp)
set_option maxRecDepth 100000 in
set_option maxHeartbeats 1000000 in
theorem clone30q (l : List Pk) (hl : l.length < 1073741824) (hne : l.map pkD ≠ []) : FnOK Try.prog 30 ([.own 0 3]) ([.row 3 (l.map pkD)]) (.own 1 3) ([.row 3 (l.map pkD), .row 3 (l.map pkD)]) := by
  refine fnOK_wp (p := (D.bool false = D.bool false) ∧ ((List.map pkD l ≠ []) ∧ ((((0 : Nat) + (List.map pkD l).length) * (32 : Nat) ≤ (140737488355328 : Nat)) ∧ ((∀ (e : D), e ∈ List.map pkD l → e.cells.length = (3 : Nat)) ∧ ((AV.own (1056 : Nat) (3 : Nat) = AV.own (1056 : Nat) (3 : Nat)) ∧ ((Ob.row (3 : Nat) (List.map pkD l) = Ob.row (3 : Nat) (List.map pkD l)) ∧ ((Ob.row (3 : Nat) ([] ++ List.map pkD l) = Ob.row (3 : Nat) (List.map pkD l)) ∧ (True)))))))) (h := {H := [(1, [(1, .val (.bool false))])]}) (subs := []) (ws := []) (ρ := []) (by kernel_rfl) ?_
  repeat' (first | with_reducible exact True.intro | with_reducible refine And.intro ?_ ?_ | with_reducible refine condP_dec (fun _ => ?_) (fun _ => ?_) | with_reducible refine condP_eq (fun _ => ?_) (fun _ => ?_) | with_reducible refine condP_ne (fun _ => ?_) (fun _ => ?_) | with_reducible refine condP_not (condP_dec (fun _ => ?_) (fun _ => ?_)) | with_reducible refine condP_not (condP_eq (fun _ => ?_) (fun _ => ?_)) | with_reducible refine condP_not (condP_intro (fun _ => ?_) (fun _ => ?_)) | with_reducible refine condP_intro (fun _ => ?_) (fun _ => ?_))
  all_goals first | exact hne | rfl | (simp; omega) | exact pkD_cells _ | skip

set_option maxRecDepth 100000 in
set_option maxHeartbeats 1000000 in
theorem clone30w (a : Option Addr) (c : Nat) : FnOK Try.prog 30 ([.raw (.slice a 0 c)]) ([.row 3 []]) (.own 1 3) ([.row 3 [], .row 3 []]) := by
  refine fnOK_wp (p := condP (a.isNone) ((AV.own (901 : Nat) (3 : Nat) = AV.own (901 : Nat) (3 : Nat)) ∧ ((Ob.row (3 : Nat) [] = Ob.row (3 : Nat) []) ∧ ((Ob.row (3 : Nat) [] = Ob.row (3 : Nat) []) ∧ (True)))) (((0 : Nat) ≤ (140737488355328 : Nat)) ∧ ((∀ (e : D), e ∈ [] → e.cells.length = (3 : Nat)) ∧ ((AV.own (1056 : Nat) (3 : Nat) = AV.own (1056 : Nat) (3 : Nat)) ∧ ((Ob.row (3 : Nat) [] = Ob.row (3 : Nat) []) ∧ ((Ob.row (3 : Nat) [] = Ob.row (3 : Nat) []) ∧ (True))))))) (h := {}) (subs := []) (ws := []) (ρ := []) (by kernel_rfl) ?_
  repeat' (first | with_reducible exact True.intro | with_reducible refine And.intro ?_ ?_ | with_reducible refine condP_dec (fun _ => ?_) (fun _ => ?_) | with_reducible refine condP_eq (fun _ => ?_) (fun _ => ?_) | with_reducible refine condP_ne (fun _ => ?_) (fun _ => ?_) | with_reducible refine condP_not (condP_dec (fun _ => ?_) (fun _ => ?_)) | with_reducible refine condP_not (condP_eq (fun _ => ?_) (fun _ => ?_)) | with_reducible refine condP_not (condP_intro (fun _ => ?_) (fun _ => ?_)) | with_reducible refine condP_intro (fun _ => ?_) (fun _ => ?_))
  all_goals first | rfl | (simp; done) | (intro e he; simp at he; done) | skip

/-- An own row that is empty may be nil, or not. -/
theorem fnOK_nilO {P : Program} {f : FuncId} {rest : List AV} {ins : List Ob} {rv : AV} {outs : List Ob} {sz : Nat} (h0 : ins[0]? = some (.row sz [])) (h1 : ∀ a c, FnOK P f (.raw (.slice a 0 c) :: rest) ins rv outs) : FnOK P f (.own 0 sz :: rest) ins rv outs :=
  ⟨(h1 none 0).1, fun w X β vs hO hvs => by
    have h := hvs.2 0 _ rfl
    have hO0 : Oof ins 0 = .row sz [] := by unfold Oof; rw [h0]
    obtain ⟨a, c, e⟩ : ∃ a c, vs.getD 0 undef = .slice a 0 c := by
      generalize vs.getD 0 undef = v at h
      have hr := hO.rel 0
      rw [hO0] at hr
      have hb : ∃ g, β 0 = .row sz 0 g := by
        generalize hβ : β 0 = b at hr
        cases hr with
        | rowN sz => exact ⟨_, rfl⟩
        | row sz es b cur t lo hi => exact ⟨_, rfl⟩
      obtain ⟨g, hβ⟩ := hb
      cases h with
      | own o sz v ho hone hh =>
        obtain ⟨-, a, c, rfl, -⟩ := hh _ _ _ hβ
        exact ⟨a, c, rfl⟩
    refine (h1 a c).2 w X β vs hO ⟨by simpa using hvs.1, fun j x hj => ?_⟩
    cases j with
    | zero => cases hj; rw [e]; exact .raw _
    | succ j => exact hvs.2 (j + 1) x hj⟩
theorem clone30o (l : List Pk) (hl : l.length < 1073741824) : FnOK Try.prog 30 [.own 0 3] [.row 3 (l.map pkD)] (.own 1 3) [.row 3 (l.map pkD), .row 3 (l.map pkD)] := by
  cases l with
  | nil => exact fnOK_nilO rfl fun a c => clone30w a c
  | cons x r => exact clone30q (x :: r) hl (by simp)
/-! ### A state with another row -/
set_option maxRecDepth 100000 in
set_option maxHeartbeats 1000000 in
theorem with29 (x : Ls) (k : Int) (l : List Pk) (hl : l.length < 1073741824) (hk : IntKind.i64.wrap (x.c + k) = x.c + k) : FnOK Try.prog 29 ([.d (lsD x), .d (.int .i64 k), .d (.sl (l.map pkD))]) ([]) (.agg [.own 0 3, .d (.int .i64 x.s), .d (.int .i64 (min (x.c + k) 1099511627776))]) ([.row 3 (l.map pkD)]) := by
  refine fnOK_wp (p := (FnOK Try.prog (30 : Nat) [AV.d (D.sl (List.map pkD l))] [] (AV.own (0 : Nat) (3 : Nat)) [Ob.row (3 : Nat) (List.map pkD l)]) ∧ ((AV.agg [AV.own (1064 : Nat) (3 : Nat), AV.d (D.int IntKind.i64 x.s), AV.d (D.int IntKind.i64 (min (IntKind.i64.wrap (x.c + k)) (1099511627776 : Int)))] = AV.agg [AV.own (1064 : Nat) (3 : Nat), AV.d (D.int IntKind.i64 x.s), AV.d (D.int IntKind.i64 (min (x.c + k) (1099511627776 : Int)))]) ∧ ((Ob.row (3 : Nat) (List.map pkD l) = Ob.row (3 : Nat) (List.map pkD l)) ∧ (True)))) (h := {H := [(1, [(1, .call [] (.own 0 3) [.row 3 (l.map pkD)])])]}) (subs := []) (ws := []) (ρ := []) (by kernel_rfl) ?_
  rw [hk]
  exact ⟨clone30 l hl, rfl, rfl, trivial⟩

set_option maxRecDepth 100000 in
set_option maxHeartbeats 1000000 in
theorem with29d (x : Ls) (k : Int) (l : List Pk) (hl : l.length < 1073741824) (hk : IntKind.i64.wrap (x.c + k) = x.c + k) : FnOK Try.prog 29 ([.d (lsD x), .d (.int .i64 k), .d (.sl (l.map pkD))]) ([]) (.d (lsD (lWith x k l))) ([]) := by
  refine fnOK_wp (p := (FnOK Try.prog (30 : Nat) [AV.d (D.sl (List.map pkD l))] [] (AV.own (0 : Nat) (3 : Nat)) [Ob.row (3 : Nat) (List.map pkD l)]) ∧ ((AV.d (D.agg [D.sl (List.map pkD l), D.int IntKind.i64 x.s, D.int IntKind.i64 (min (IntKind.i64.wrap (x.c + k)) (1099511627776 : Int))]) = AV.d (D.agg [D.sl (List.map pkD (lWith x k l).l), D.int IntKind.i64 (lWith x k l).s, D.int IntKind.i64 (lWith x k l).c])) ∧ (True))) (h := {H := [(1, [(1, .call [] (.own 0 3) [.row 3 (l.map pkD)])])]}) (subs := []) (ws := []) (ρ := []) (by kernel_rfl) ?_
  rw [hk]
  exact ⟨clone30 l hl, rfl, trivial⟩

set_option maxRecDepth 100000 in
set_option maxHeartbeats 1000000 in
theorem with29o (x : Ls) (k : Int) (l : List Pk) (hl : l.length < 1073741824) (hk : IntKind.i64.wrap (x.c + k) = x.c + k) : FnOK Try.prog 29 ([.d (lsD x), .d (.int .i64 k), .own 0 3]) ([.row 3 (l.map pkD)]) (.agg [.own 1 3, .d (.int .i64 x.s), .d (.int .i64 (min (x.c + k) 1099511627776))]) ([.row 3 (l.map pkD), .row 3 (l.map pkD)]) := by
  refine fnOK_wp (p := (FnOK Try.prog (30 : Nat) [AV.own (0 : Nat) (3 : Nat)] [Ob.row (3 : Nat) (List.map pkD l)] (AV.own (1 : Nat) (3 : Nat)) [Ob.row (3 : Nat) (List.map pkD l), Ob.row (3 : Nat) (List.map pkD l)]) ∧ ((AV.agg [AV.own (1064 : Nat) (3 : Nat), AV.d (D.int IntKind.i64 x.s), AV.d (D.int IntKind.i64 (min (IntKind.i64.wrap (x.c + k)) (1099511627776 : Int)))] = AV.agg [AV.own (1064 : Nat) (3 : Nat), AV.d (D.int IntKind.i64 x.s), AV.d (D.int IntKind.i64 (min (x.c + k) (1099511627776 : Int)))]) ∧ ((Ob.row (3 : Nat) (List.map pkD l) = Ob.row (3 : Nat) (List.map pkD l)) ∧ ((Ob.row (3 : Nat) (List.map pkD l) = Ob.row (3 : Nat) (List.map pkD l)) ∧ (True))))) (h := {H := [(1, [(1, .call [0] (.own 1 3) [.row 3 (l.map pkD), .row 3 (l.map pkD)])])]}) (subs := []) (ws := []) (ρ := []) (by kernel_rfl) ?_
  rw [hk]
  exact ⟨clone30o l hl, rfl, rfl, rfl, trivial⟩

/-! ### Rows joined -/
set_option maxRecDepth 100000 in
set_option maxHeartbeats 1000000 in
theorem grow41z  : FnOK Try.prog 41 ([.raw (.slice none 0 0), .d (.int .i64 0)]) ([]) (.own 0 3) ([.row 3 []]) := by
  refine fnOK_wp (p := (AV.own (900 : Nat) (3 : Nat) = AV.own (900 : Nat) (3 : Nat)) ∧ ((Ob.row (3 : Nat) [] = Ob.row (3 : Nat) []) ∧ (True))) (h := {}) (subs := []) (ws := []) (ρ := []) (by kernel_rfl) ?_
  repeat' (first | with_reducible exact True.intro | with_reducible refine And.intro ?_ ?_ | with_reducible refine condP_dec (fun _ => ?_) (fun _ => ?_) | with_reducible refine condP_eq (fun _ => ?_) (fun _ => ?_) | with_reducible refine condP_ne (fun _ => ?_) (fun _ => ?_) | with_reducible refine condP_not (condP_dec (fun _ => ?_) (fun _ => ?_)) | with_reducible refine condP_not (condP_eq (fun _ => ?_) (fun _ => ?_)) | with_reducible refine condP_not (condP_intro (fun _ => ?_) (fun _ => ?_)) | with_reducible refine condP_intro (fun _ => ?_) (fun _ => ?_))
  all_goals first | rfl | decide | skip

set_option maxRecDepth 100000 in
set_option maxHeartbeats 1000000 in
theorem grow41p (n : Nat) (n0 : 0 < n) (hn : n < 2147483648) : FnOK Try.prog 41 ([.raw (.slice none 0 0), .d (.int .i64 n)]) ([]) (.sub 0 3 0 0) ([.row 3 (List.replicate n (pkD pk0))]) := by
  refine fnOK_wp (p := (D.bool false = D.bool false) ∧ ((D.int IntKind.i64 (0 : Int) = D.int IntKind.i64 (0 : Int)) ∧ ((D.int IntKind.i64 (IntKind.i64.wrap ((↑n : Int) - (0 : Int))) = D.int IntKind.i64 (↑n : Int)) ∧ ((D.bool (decide ((↑n : Int) > (0 : Int))) = D.bool true) ∧ (((0 : Int) = (0 : Int)) ∧ (((0 : Int) = (0 : Int)) ∧ ((((0 : Nat) + (List.replicate (↑n : Int).toNat (D.agg [D.int IntKind.i64 (0 : Int), D.int IntKind.i64 (0 : Int), D.str []])).length) * (32 : Nat) ≤ (140737488355328 : Nat)) ∧ ((∀ (e : D), e ∈ List.replicate (↑n : Int).toNat (D.agg [D.int IntKind.i64 (0 : Int), D.int IntKind.i64 (0 : Int), D.str []]) → e.cells.length = (3 : Nat)) ∧ (((0 : Int) ≤ (↑n : Int)) ∧ (((0 : Int) ≤ (0 : Int) ∧ (0 : Int) ≤ (↑(0 : Nat) : Int) ∧ (↑(0 : Nat) : Int) ≤ (↑([] ++ List.replicate (↑n : Int).toNat (D.agg [D.int IntKind.i64 (0 : Int), D.int IntKind.i64 (0 : Int), D.str (ByteArray.mk #[]).data.toList])).length : Int)) ∧ ((AV.sub (1176 : Nat) (3 : Nat) (0 : Nat) (0 : Nat) = AV.sub (1176 : Nat) (3 : Nat) (0 : Nat) (0 : Nat)) ∧ ((Ob.row (3 : Nat) ([] ++ List.replicate (↑n : Int).toNat (D.agg [D.int IntKind.i64 (0 : Int), D.int IntKind.i64 (0 : Int), D.str []])) = Ob.row (3 : Nat) (List.replicate n (pkD pk0))) ∧ (True))))))))))))) (h := {H := [(1, [(1, .val (.bool false))]), (3, [(5, .val (.int .i64 0)), (6, .val (.int .i64 n))]), (4, [(1, .val (.bool true))])]}) (subs := []) (ws := []) (ρ := []) (by kernel_rfl) ?_
  have hw : IntKind.i64.wrap ((n : Int) - 0) = (n : Int) := by rw [IntKind.wrap_i64]; omega
  repeat' (first | with_reducible exact True.intro | with_reducible refine And.intro ?_ ?_ | with_reducible refine condP_dec (fun _ => ?_) (fun _ => ?_) | with_reducible refine condP_eq (fun _ => ?_) (fun _ => ?_) | with_reducible refine condP_ne (fun _ => ?_) (fun _ => ?_) | with_reducible refine condP_not (condP_dec (fun _ => ?_) (fun _ => ?_)) | with_reducible refine condP_not (condP_eq (fun _ => ?_) (fun _ => ?_)) | with_reducible refine condP_not (condP_intro (fun _ => ?_) (fun _ => ?_)) | with_reducible refine condP_intro (fun _ => ?_) (fun _ => ?_))
  all_goals first | rfl | omega | exact dno (by omega) | exact dyes (by omega) | (rw [hw]) | (simp; omega) | (simp; done) | (intro e he; rw [List.eq_of_mem_replicate he]; rfl) | skip

def I34 (a b : List Pk) (j : Nat) (n : Int) : St := ⟨[(0, .own 0 1), (3, .d (.int .i64 n)), (9, .own 0 1), (10, .d (.int .i64 2)), (11, .d (.int .i64 j))], [(0, .row 1 [.sl (a.map pkD), .sl (b.map pkD)])]⟩
set_option maxRecDepth 100000 in
set_option maxHeartbeats 1000000 in
theorem r34a (a b : List Pk) (ha : a.length < 1073741824) (hb : b.length < 1073741824) : Runs Try.prog 1 (loopN Try.prog 34 0) (St.as (I34 a b 0 0) 36) (.normal) (St.as (I34 a b 1 a.length) 36) := by
  refine round_wp (p := ((0 : Int) ≤ (↑(0 : Nat) : Int) ∧ (↑(0 : Nat) : Int) < (↑[D.sl (List.map pkD a), D.sl (List.map pkD b)].length : Int)) ∧ (((1 : Nat) = (1 : Nat)) ∧ ((some (D.sl (List.map pkD a)) = some (D.sl (List.map pkD a))) ∧ ((D.bool (decide (IntKind.i64.wrap ((0 : Int) + (↑(List.map pkD a).length : Int)) < (0 : Int))) = D.bool false) ∧ ((AV.own (0 : Nat) (1 : Nat) = AV.own (0 : Nat) (1 : Nat)) ∧ ((AV.d (D.int IntKind.i64 (IntKind.i64.wrap ((0 : Int) + (↑(List.map pkD a).length : Int)))) = AV.d (D.int IntKind.i64 (↑a.length : Int))) ∧ ((AV.own (0 : Nat) (1 : Nat) = AV.own (0 : Nat) (1 : Nat)) ∧ ((AV.d (D.int IntKind.i64 (2 : Int)) = AV.d (D.int IntKind.i64 (2 : Int))) ∧ ((AV.d (D.int IntKind.i64 (1 : Int)) = AV.d (D.int IntKind.i64 (1 : Int))) ∧ ((Ob.row (1 : Nat) [D.sl (List.map pkD a), D.sl (List.map pkD b)] = Ob.row (1 : Nat) [D.sl (List.map pkD a), D.sl (List.map pkD b)]) ∧ (True))))))))))) (h := {els := [(13, .el (.sl (a.map pkD)))], H := [(6, [(1, .val (.bool false))])]}) (subs := []) (ws := []) (ρ := []) (by kernel_rfl) ?_
  have w1 : IntKind.i64.wrap (0 + (a.length : Int)) = (a.length : Int) := by rw [IntKind.wrap_i64]; omega
  have w2 : IntKind.i64.wrap ((a.length : Int) + (b.length : Int)) = ((a.length + b.length : Nat) : Int) := by rw [IntKind.wrap_i64]; omega
  simp only [List.length_map, w1, w2]
  repeat' (first | with_reducible exact True.intro | with_reducible refine And.intro ?_ ?_ | with_reducible refine condP_dec (fun _ => ?_) (fun _ => ?_) | with_reducible refine condP_eq (fun _ => ?_) (fun _ => ?_) | with_reducible refine condP_ne (fun _ => ?_) (fun _ => ?_) | with_reducible refine condP_not (condP_dec (fun _ => ?_) (fun _ => ?_)) | with_reducible refine condP_not (condP_eq (fun _ => ?_) (fun _ => ?_)) | with_reducible refine condP_not (condP_intro (fun _ => ?_) (fun _ => ?_)) | with_reducible refine condP_intro (fun _ => ?_) (fun _ => ?_))
  all_goals first | rfl | omega | exact dno (by omega) | exact dyes (by omega) | decide | (simp; omega) | (simp; done) | exact pkD_cells _ | skip

set_option maxRecDepth 100000 in
set_option maxHeartbeats 1000000 in
theorem r34b (a b : List Pk) (ha : a.length < 1073741824) (hb : b.length < 1073741824) : Runs Try.prog 1 (loopN Try.prog 34 0) (St.as (I34 a b 1 a.length) 36) (.normal) (St.as (I34 a b 2 (a.length + b.length : Nat)) 36) := by
  refine round_wp (p := ((0 : Int) ≤ (↑(1 : Nat) : Int) ∧ (↑(1 : Nat) : Int) < (↑[D.sl (List.map pkD a), D.sl (List.map pkD b)].length : Int)) ∧ (((1 : Nat) = (1 : Nat)) ∧ ((some (D.sl (List.map pkD b)) = some (D.sl (List.map pkD b))) ∧ ((D.bool (decide (IntKind.i64.wrap ((↑a.length : Int) + (↑(List.map pkD b).length : Int)) < (0 : Int))) = D.bool false) ∧ ((AV.own (0 : Nat) (1 : Nat) = AV.own (0 : Nat) (1 : Nat)) ∧ ((AV.d (D.int IntKind.i64 (IntKind.i64.wrap ((↑a.length : Int) + (↑(List.map pkD b).length : Int)))) = AV.d (D.int IntKind.i64 (↑(a.length + b.length) : Int))) ∧ ((AV.own (0 : Nat) (1 : Nat) = AV.own (0 : Nat) (1 : Nat)) ∧ ((AV.d (D.int IntKind.i64 (2 : Int)) = AV.d (D.int IntKind.i64 (2 : Int))) ∧ ((AV.d (D.int IntKind.i64 (2 : Int)) = AV.d (D.int IntKind.i64 (2 : Int))) ∧ ((Ob.row (1 : Nat) [D.sl (List.map pkD a), D.sl (List.map pkD b)] = Ob.row (1 : Nat) [D.sl (List.map pkD a), D.sl (List.map pkD b)]) ∧ (True))))))))))) (h := {els := [(13, .el (.sl (b.map pkD)))], H := [(6, [(1, .val (.bool false))])]}) (subs := []) (ws := []) (ρ := []) (by kernel_rfl) ?_
  have w1 : IntKind.i64.wrap (0 + (a.length : Int)) = (a.length : Int) := by rw [IntKind.wrap_i64]; omega
  have w2 : IntKind.i64.wrap ((a.length : Int) + (b.length : Int)) = ((a.length + b.length : Nat) : Int) := by rw [IntKind.wrap_i64]; omega
  simp only [List.length_map, w1, w2]
  repeat' (first | with_reducible exact True.intro | with_reducible refine And.intro ?_ ?_ | with_reducible refine condP_dec (fun _ => ?_) (fun _ => ?_) | with_reducible refine condP_eq (fun _ => ?_) (fun _ => ?_) | with_reducible refine condP_ne (fun _ => ?_) (fun _ => ?_) | with_reducible refine condP_not (condP_dec (fun _ => ?_) (fun _ => ?_)) | with_reducible refine condP_not (condP_eq (fun _ => ?_) (fun _ => ?_)) | with_reducible refine condP_not (condP_intro (fun _ => ?_) (fun _ => ?_)) | with_reducible refine condP_intro (fun _ => ?_) (fun _ => ?_))
  all_goals first | rfl | omega | exact dno (by omega) | exact dyes (by omega) | decide | (simp; omega) | (simp; done) | exact pkD_cells _ | skip

set_option maxRecDepth 100000 in
set_option maxHeartbeats 1000000 in
theorem q34 (a b : List Pk) (n : Int) : Runs Try.prog 1 (loopN Try.prog 34 0) (St.as (I34 a b 2 n) 36) (.exit 0) (St.as (I34 a b 2 n) 36) := by
  refine round_wp (p := (AV.own (0 : Nat) (1 : Nat) = AV.own (0 : Nat) (1 : Nat)) ∧ ((AV.d (D.int IntKind.i64 n) = AV.d (D.int IntKind.i64 n)) ∧ ((AV.own (0 : Nat) (1 : Nat) = AV.own (0 : Nat) (1 : Nat)) ∧ ((AV.d (D.int IntKind.i64 (2 : Int)) = AV.d (D.int IntKind.i64 (2 : Int))) ∧ ((AV.d (D.int IntKind.i64 (2 : Int)) = AV.d (D.int IntKind.i64 (2 : Int))) ∧ ((Ob.row (1 : Nat) [D.sl (List.map pkD a), D.sl (List.map pkD b)] = Ob.row (1 : Nat) [D.sl (List.map pkD a), D.sl (List.map pkD b)]) ∧ (True))))))) (h := {}) (subs := []) (ws := []) (ρ := []) (by kernel_rfl) ?_
  repeat' (first | with_reducible exact True.intro | with_reducible refine And.intro ?_ ?_ | with_reducible refine condP_dec (fun _ => ?_) (fun _ => ?_) | with_reducible refine condP_eq (fun _ => ?_) (fun _ => ?_) | with_reducible refine condP_ne (fun _ => ?_) (fun _ => ?_) | with_reducible refine condP_not (condP_dec (fun _ => ?_) (fun _ => ?_)) | with_reducible refine condP_not (condP_eq (fun _ => ?_) (fun _ => ?_)) | with_reducible refine condP_not (condP_intro (fun _ => ?_) (fun _ => ?_)) | with_reducible refine condP_intro (fun _ => ?_) (fun _ => ?_))
  all_goals first | rfl | decide | skip

def J34 (a b : List Pk) (x : AV) (es : List D) (j : Nat) : St := ⟨[(6, x), (25, .own 0 1), (26, .d (.int .i64 2)), (27, .d (.int .i64 j))], [(0, .row 1 [.sl (a.map pkD), .sl (b.map pkD)]), (1, .row 3 es)]⟩
set_option maxRecDepth 100000 in
set_option maxHeartbeats 1000000 in
theorem s34z (a b : List Pk) (ha : a.length < 1073741824) (hb : b.length < 1073741824) : Runs Try.prog 1 (loopN Try.prog 34 1) (St.as (J34 a b (.own 1 3) [] 0) 36) (.normal) (St.as (J34 a b (.own 1 3) (a.map pkD) 1) 36) := by
  refine round_wp (p := ((0 : Int) ≤ (↑(0 : Nat) : Int) ∧ (↑(0 : Nat) : Int) < (↑[D.sl (List.map pkD a), D.sl (List.map pkD b)].length : Int)) ∧ (((1 : Nat) = (1 : Nat)) ∧ ((some (D.sl (List.map pkD a)) = some (D.sl (List.map pkD a))) ∧ ((((0 : Nat) + (List.map pkD a).length) * (32 : Nat) ≤ (140737488355328 : Nat)) ∧ ((∀ (e : D), e ∈ List.map pkD a → e.cells.length = (3 : Nat)) ∧ ((AV.own (1264 : Nat) (3 : Nat) = AV.own (1264 : Nat) (3 : Nat)) ∧ ((AV.own (0 : Nat) (1 : Nat) = AV.own (0 : Nat) (1 : Nat)) ∧ ((AV.d (D.int IntKind.i64 (2 : Int)) = AV.d (D.int IntKind.i64 (2 : Int))) ∧ ((AV.d (D.int IntKind.i64 (1 : Int)) = AV.d (D.int IntKind.i64 (1 : Int))) ∧ ((Ob.row (1 : Nat) [D.sl (List.map pkD a), D.sl (List.map pkD b)] = Ob.row (1 : Nat) [D.sl (List.map pkD a), D.sl (List.map pkD b)]) ∧ ((Ob.row (3 : Nat) ([] ++ List.map pkD a) = Ob.row (3 : Nat) (List.map pkD a)) ∧ (True)))))))))))) (h := {els := [(29, .el (.sl (a.map pkD)))]}) (subs := []) (ws := []) (ρ := []) (by kernel_rfl) ?_
  have w1 : IntKind.i64.wrap (0 + (a.length : Int)) = (a.length : Int) := by rw [IntKind.wrap_i64]; omega
  have w2 : IntKind.i64.wrap ((a.length : Int) + (b.length : Int)) = ((a.length + b.length : Nat) : Int) := by rw [IntKind.wrap_i64]; omega
  simp only [List.length_map, w1, w2]
  repeat' (first | with_reducible exact True.intro | with_reducible refine And.intro ?_ ?_ | with_reducible refine condP_dec (fun _ => ?_) (fun _ => ?_) | with_reducible refine condP_eq (fun _ => ?_) (fun _ => ?_) | with_reducible refine condP_ne (fun _ => ?_) (fun _ => ?_) | with_reducible refine condP_not (condP_dec (fun _ => ?_) (fun _ => ?_)) | with_reducible refine condP_not (condP_eq (fun _ => ?_) (fun _ => ?_)) | with_reducible refine condP_not (condP_intro (fun _ => ?_) (fun _ => ?_)) | with_reducible refine condP_intro (fun _ => ?_) (fun _ => ?_))
  all_goals first | rfl | omega | exact dno (by omega) | exact dyes (by omega) | decide | (simp; omega) | (simp; done) | exact pkD_cells _ | skip

set_option maxRecDepth 100000 in
set_option maxHeartbeats 1000000 in
theorem s34p (a b : List Pk) (ha : a.length < 1073741824) (hb : b.length < 1073741824) (n : Nat) : Runs Try.prog 1 (loopN Try.prog 34 1) (St.as (J34 a b (.sub 1 3 0 0) (List.replicate n (pkD pk0)) 0) 36) (.normal) (St.as (J34 a b (.own 1 3) (a.map pkD) 1) 36) := by
  refine round_wp (p := ((0 : Int) ≤ (↑(0 : Nat) : Int) ∧ (↑(0 : Nat) : Int) < (↑[D.sl (List.map pkD a), D.sl (List.map pkD b)].length : Int)) ∧ (((1 : Nat) = (1 : Nat)) ∧ ((some (D.sl (List.map pkD a)) = some (D.sl (List.map pkD a))) ∧ ((((List.take (0 : Nat) (List.replicate n (pkD pk0))).length + (List.map pkD a).length) * (32 : Nat) ≤ (140737488355328 : Nat)) ∧ ((∀ (e : D), e ∈ List.map pkD a → e.cells.length = (3 : Nat)) ∧ ((AV.own (1264 : Nat) (3 : Nat) = AV.own (1264 : Nat) (3 : Nat)) ∧ ((AV.own (0 : Nat) (1 : Nat) = AV.own (0 : Nat) (1 : Nat)) ∧ ((AV.d (D.int IntKind.i64 (2 : Int)) = AV.d (D.int IntKind.i64 (2 : Int))) ∧ ((AV.d (D.int IntKind.i64 (1 : Int)) = AV.d (D.int IntKind.i64 (1 : Int))) ∧ ((Ob.row (1 : Nat) [D.sl (List.map pkD a), D.sl (List.map pkD b)] = Ob.row (1 : Nat) [D.sl (List.map pkD a), D.sl (List.map pkD b)]) ∧ ((Ob.row (3 : Nat) (List.take (0 : Nat) (List.replicate n (pkD pk0)) ++ List.map pkD a) = Ob.row (3 : Nat) (List.map pkD a)) ∧ (True)))))))))))) (h := {els := [(29, .el (.sl (a.map pkD)))]}) (subs := []) (ws := []) (ρ := []) (by kernel_rfl) ?_
  have w1 : IntKind.i64.wrap (0 + (a.length : Int)) = (a.length : Int) := by rw [IntKind.wrap_i64]; omega
  have w2 : IntKind.i64.wrap ((a.length : Int) + (b.length : Int)) = ((a.length + b.length : Nat) : Int) := by rw [IntKind.wrap_i64]; omega
  simp only [List.length_map, w1, w2]
  repeat' (first | with_reducible exact True.intro | with_reducible refine And.intro ?_ ?_ | with_reducible refine condP_dec (fun _ => ?_) (fun _ => ?_) | with_reducible refine condP_eq (fun _ => ?_) (fun _ => ?_) | with_reducible refine condP_ne (fun _ => ?_) (fun _ => ?_) | with_reducible refine condP_not (condP_dec (fun _ => ?_) (fun _ => ?_)) | with_reducible refine condP_not (condP_eq (fun _ => ?_) (fun _ => ?_)) | with_reducible refine condP_not (condP_intro (fun _ => ?_) (fun _ => ?_)) | with_reducible refine condP_intro (fun _ => ?_) (fun _ => ?_))
  all_goals first | rfl | omega | exact dno (by omega) | exact dyes (by omega) | decide | (simp; omega) | (simp; done) | exact pkD_cells _ | skip

set_option maxRecDepth 100000 in
set_option maxHeartbeats 1000000 in
theorem s34b (a b : List Pk) (ha : a.length < 1073741824) (hb : b.length < 1073741824) : Runs Try.prog 1 (loopN Try.prog 34 1) (St.as (J34 a b (.own 1 3) (a.map pkD) 1) 36) (.normal) (St.as (J34 a b (.own 1 3) ((a ++ b).map pkD) 2) 36) := by
  refine round_wp (p := ((0 : Int) ≤ (↑(1 : Nat) : Int) ∧ (↑(1 : Nat) : Int) < (↑[D.sl (List.map pkD a), D.sl (List.map pkD b)].length : Int)) ∧ (((1 : Nat) = (1 : Nat)) ∧ ((some (D.sl (List.map pkD b)) = some (D.sl (List.map pkD b))) ∧ ((((List.map pkD a).length + (List.map pkD b).length) * (32 : Nat) ≤ (140737488355328 : Nat)) ∧ ((∀ (e : D), e ∈ List.map pkD b → e.cells.length = (3 : Nat)) ∧ ((AV.own (1264 : Nat) (3 : Nat) = AV.own (1264 : Nat) (3 : Nat)) ∧ ((AV.own (0 : Nat) (1 : Nat) = AV.own (0 : Nat) (1 : Nat)) ∧ ((AV.d (D.int IntKind.i64 (2 : Int)) = AV.d (D.int IntKind.i64 (2 : Int))) ∧ ((AV.d (D.int IntKind.i64 (2 : Int)) = AV.d (D.int IntKind.i64 (2 : Int))) ∧ ((Ob.row (1 : Nat) [D.sl (List.map pkD a), D.sl (List.map pkD b)] = Ob.row (1 : Nat) [D.sl (List.map pkD a), D.sl (List.map pkD b)]) ∧ ((Ob.row (3 : Nat) (List.map pkD a ++ List.map pkD b) = Ob.row (3 : Nat) (List.map pkD (a ++ b))) ∧ (True)))))))))))) (h := {els := [(29, .el (.sl (b.map pkD)))]}) (subs := []) (ws := []) (ρ := []) (by kernel_rfl) ?_
  have w1 : IntKind.i64.wrap (0 + (a.length : Int)) = (a.length : Int) := by rw [IntKind.wrap_i64]; omega
  have w2 : IntKind.i64.wrap ((a.length : Int) + (b.length : Int)) = ((a.length + b.length : Nat) : Int) := by rw [IntKind.wrap_i64]; omega
  simp only [List.length_map, w1, w2]
  repeat' (first | with_reducible exact True.intro | with_reducible refine And.intro ?_ ?_ | with_reducible refine condP_dec (fun _ => ?_) (fun _ => ?_) | with_reducible refine condP_eq (fun _ => ?_) (fun _ => ?_) | with_reducible refine condP_ne (fun _ => ?_) (fun _ => ?_) | with_reducible refine condP_not (condP_dec (fun _ => ?_) (fun _ => ?_)) | with_reducible refine condP_not (condP_eq (fun _ => ?_) (fun _ => ?_)) | with_reducible refine condP_not (condP_intro (fun _ => ?_) (fun _ => ?_)) | with_reducible refine condP_intro (fun _ => ?_) (fun _ => ?_))
  all_goals first | rfl | omega | exact dno (by omega) | exact dyes (by omega) | decide | (simp; omega) | (simp; done) | exact pkD_cells _ | skip

set_option maxRecDepth 100000 in
set_option maxHeartbeats 1000000 in
theorem t34 (a b : List Pk) (es : List D) : Runs Try.prog 1 (loopN Try.prog 34 1) (St.as (J34 a b (.own 1 3) es 2) 36) (.exit 2) (St.as (J34 a b (.own 1 3) es 2) 36) := by
  refine round_wp (p := (AV.own (1 : Nat) (3 : Nat) = AV.own (1 : Nat) (3 : Nat)) ∧ ((AV.own (0 : Nat) (1 : Nat) = AV.own (0 : Nat) (1 : Nat)) ∧ ((AV.d (D.int IntKind.i64 (2 : Int)) = AV.d (D.int IntKind.i64 (2 : Int))) ∧ ((AV.d (D.int IntKind.i64 (2 : Int)) = AV.d (D.int IntKind.i64 (2 : Int))) ∧ ((Ob.row (1 : Nat) [D.sl (List.map pkD a), D.sl (List.map pkD b)] = Ob.row (1 : Nat) [D.sl (List.map pkD a), D.sl (List.map pkD b)]) ∧ ((Ob.row (3 : Nat) es = Ob.row (3 : Nat) es) ∧ (True))))))) (h := {}) (subs := []) (ws := []) (ρ := []) (by kernel_rfl) ?_
  repeat' (first | with_reducible exact True.intro | with_reducible refine And.intro ?_ ?_ | with_reducible refine condP_dec (fun _ => ?_) (fun _ => ?_) | with_reducible refine condP_eq (fun _ => ?_) (fun _ => ?_) | with_reducible refine condP_ne (fun _ => ?_) (fun _ => ?_) | with_reducible refine condP_not (condP_dec (fun _ => ?_) (fun _ => ?_)) | with_reducible refine condP_not (condP_eq (fun _ => ?_) (fun _ => ?_)) | with_reducible refine condP_not (condP_intro (fun _ => ?_) (fun _ => ?_)) | with_reducible refine condP_intro (fun _ => ?_) (fun _ => ?_))
  all_goals first | rfl | decide | skip

theorem l34 (a b : List Pk) (ha : a.length < 1073741824) (hb : b.length < 1073741824) : Loops Try.prog 1 (loopN Try.prog 34 0) ((I34 a b 0 0).as 36) (.exit 0) ((I34 a b 2 (a.length + b.length : Nat)).as 36) :=
  .next (r34a a b ha hb) (.next (r34b a b ha hb) (.out (q34 a b _) (by simp)))
theorem m34z (a b : List Pk) (ha : a.length < 1073741824) (hb : b.length < 1073741824) : Loops Try.prog 1 (loopN Try.prog 34 1) ((J34 a b (.own 1 3) [] 0).as 36) (.exit 2) ((J34 a b (.own 1 3) ((a ++ b).map pkD) 2).as 36) :=
  .next (s34z a b ha hb) (.next (s34b a b ha hb) (.out (t34 a b _) (by simp)))
theorem m34p (a b : List Pk) (ha : a.length < 1073741824) (hb : b.length < 1073741824) (n : Nat) : Loops Try.prog 1 (loopN Try.prog 34 1) ((J34 a b (.sub 1 3 0 0) (List.replicate n (pkD pk0)) 0).as 36) (.exit 2) ((J34 a b (.own 1 3) ((a ++ b).map pkD) 2).as 36) :=
  .next (s34p a b ha hb n) (.next (s34b a b ha hb) (.out (t34 a b _) (by simp)))
set_option maxRecDepth 100000 in
set_option maxHeartbeats 1000000 in
theorem concat34z (a b : List Pk) (ha : a.length < 1073741824) (hb : b.length < 1073741824) (h0 : a.length + b.length = 0) : FnOK Try.prog 34 ([.own 0 1]) ([.row 1 [.sl (a.map pkD), .sl (b.map pkD)]]) (.own 1 3) ([.row 1 [.sl (a.map pkD), .sl (b.map pkD)], .row 3 ((a ++ b).map pkD)]) := by
  refine fnOK_wp (p := (AV.own (0 : Nat) (1 : Nat) = AV.own (0 : Nat) (1 : Nat)) ∧ ((AV.d (D.int IntKind.i64 (0 : Int)) = AV.d (D.int IntKind.i64 (0 : Int))) ∧ ((AV.own (0 : Nat) (1 : Nat) = AV.own (0 : Nat) (1 : Nat)) ∧ ((AV.d (D.int IntKind.i64 (↑[D.sl (List.map pkD a), D.sl (List.map pkD b)].length : Int)) = AV.d (D.int IntKind.i64 (2 : Int))) ∧ ((AV.d (D.int IntKind.i64 (0 : Int)) = AV.d (D.int IntKind.i64 (0 : Int))) ∧ ((Ob.row (1 : Nat) [D.sl (List.map pkD a), D.sl (List.map pkD b)] = Ob.row (1 : Nat) [D.sl (List.map pkD a), D.sl (List.map pkD b)]) ∧ ((LoopsS Try.prog (1 : Nat) (loopN Try.prog (34 : Nat) (0 : Nat)) (I34 a b (0 : Nat) (0 : Int)) (Exit.exit (0 : Nat)) (I34 a b (2 : Nat) (0 : Int)) (36 : Nat)) ∧ ((FnOK Try.prog (41 : Nat) [AV.raw (Value.slice none (0 : Nat) (0 : Nat)), AV.d (D.int IntKind.i64 (0 : Int))] [] (AV.own (0 : Nat) (3 : Nat)) [Ob.row (3 : Nat) []]) ∧ ((AV.own (1192 : Nat) (3 : Nat) = AV.own (1192 : Nat) (3 : Nat)) ∧ ((AV.own (0 : Nat) (1 : Nat) = AV.own (0 : Nat) (1 : Nat)) ∧ ((AV.d (D.int IntKind.i64 (↑[D.sl (List.map pkD a), D.sl (List.map pkD b)].length : Int)) = AV.d (D.int IntKind.i64 (2 : Int))) ∧ ((AV.d (D.int IntKind.i64 (0 : Int)) = AV.d (D.int IntKind.i64 (0 : Int))) ∧ ((Ob.row (1 : Nat) [D.sl (List.map pkD a), D.sl (List.map pkD b)] = Ob.row (1 : Nat) [D.sl (List.map pkD a), D.sl (List.map pkD b)]) ∧ ((Ob.row (3 : Nat) [] = Ob.row (3 : Nat) []) ∧ ((LoopsS Try.prog (1 : Nat) (loopN Try.prog (34 : Nat) (1 : Nat)) (J34 a b (AV.own (1 : Nat) (3 : Nat)) [] (0 : Nat)) (Exit.exit (2 : Nat)) (J34 a b (AV.own (1 : Nat) (3 : Nat)) (List.map pkD (a ++ b)) (2 : Nat)) (36 : Nat)) ∧ ((AV.own (1 : Nat) (3 : Nat) = AV.own (1 : Nat) (3 : Nat)) ∧ ((Ob.row (1 : Nat) [D.sl (List.map pkD a), D.sl (List.map pkD b)] = Ob.row (1 : Nat) [D.sl (List.map pkD a), D.sl (List.map pkD b)]) ∧ ((Ob.row (3 : Nat) (List.map pkD (a ++ b)) = Ob.row (3 : Nat) (List.map pkD (a ++ b))) ∧ (True))))))))))))))))))) (h := {H := [(9, [(1, .callN [] (.own 0 3) [.row 3 []])])]}) (subs := [⟨[], [], I34 a b 0 0, .exit 0, I34 a b 2 0⟩, ⟨[], [], J34 a b (.own 1 3) [] 0, .exit 2, J34 a b (.own 1 3) ((a ++ b).map pkD) 2⟩]) (ws := []) (ρ := []) (by kernel_rfl) ?_
  have h1 := l34 a b ha hb
  rw [h0] at h1
  have h2 := m34z a b ha hb
  repeat' (first | with_reducible exact True.intro | with_reducible refine And.intro ?_ ?_ | with_reducible refine condP_dec (fun _ => ?_) (fun _ => ?_) | with_reducible refine condP_eq (fun _ => ?_) (fun _ => ?_) | with_reducible refine condP_ne (fun _ => ?_) (fun _ => ?_) | with_reducible refine condP_not (condP_dec (fun _ => ?_) (fun _ => ?_)) | with_reducible refine condP_not (condP_eq (fun _ => ?_) (fun _ => ?_)) | with_reducible refine condP_not (condP_intro (fun _ => ?_) (fun _ => ?_)) | with_reducible refine condP_intro (fun _ => ?_) (fun _ => ?_))
  all_goals first | exact h1 | exact h2 | exact grow41z | rfl | skip

set_option maxRecDepth 100000 in
set_option maxHeartbeats 1000000 in
theorem concat34p (a b : List Pk) (ha : a.length < 1073741824) (hb : b.length < 1073741824) (n : Nat) (n0 : 0 < n) (hn : a.length + b.length = n) : FnOK Try.prog 34 ([.own 0 1]) ([.row 1 [.sl (a.map pkD), .sl (b.map pkD)]]) (.own 1 3) ([.row 1 [.sl (a.map pkD), .sl (b.map pkD)], .row 3 ((a ++ b).map pkD)]) := by
  refine fnOK_wp (p := (AV.own (0 : Nat) (1 : Nat) = AV.own (0 : Nat) (1 : Nat)) ∧ ((AV.d (D.int IntKind.i64 (0 : Int)) = AV.d (D.int IntKind.i64 (0 : Int))) ∧ ((AV.own (0 : Nat) (1 : Nat) = AV.own (0 : Nat) (1 : Nat)) ∧ ((AV.d (D.int IntKind.i64 (↑[D.sl (List.map pkD a), D.sl (List.map pkD b)].length : Int)) = AV.d (D.int IntKind.i64 (2 : Int))) ∧ ((AV.d (D.int IntKind.i64 (0 : Int)) = AV.d (D.int IntKind.i64 (0 : Int))) ∧ ((Ob.row (1 : Nat) [D.sl (List.map pkD a), D.sl (List.map pkD b)] = Ob.row (1 : Nat) [D.sl (List.map pkD a), D.sl (List.map pkD b)]) ∧ ((LoopsS Try.prog (1 : Nat) (loopN Try.prog (34 : Nat) (0 : Nat)) (I34 a b (0 : Nat) (0 : Int)) (Exit.exit (0 : Nat)) (I34 a b (2 : Nat) (↑n : Int)) (36 : Nat)) ∧ ((FnOK Try.prog (41 : Nat) [AV.raw (Value.slice none (0 : Nat) (0 : Nat)), AV.d (D.int IntKind.i64 (↑n : Int))] [] (AV.sub (0 : Nat) (3 : Nat) (0 : Nat) (0 : Nat)) [Ob.row (3 : Nat) (List.replicate n (pkD pk0))]) ∧ ((AV.sub (1192 : Nat) (3 : Nat) (0 : Nat) (0 : Nat) = AV.sub (1192 : Nat) (3 : Nat) (0 : Nat) (0 : Nat)) ∧ ((AV.own (0 : Nat) (1 : Nat) = AV.own (0 : Nat) (1 : Nat)) ∧ ((AV.d (D.int IntKind.i64 (↑[D.sl (List.map pkD a), D.sl (List.map pkD b)].length : Int)) = AV.d (D.int IntKind.i64 (2 : Int))) ∧ ((AV.d (D.int IntKind.i64 (0 : Int)) = AV.d (D.int IntKind.i64 (0 : Int))) ∧ ((Ob.row (1 : Nat) [D.sl (List.map pkD a), D.sl (List.map pkD b)] = Ob.row (1 : Nat) [D.sl (List.map pkD a), D.sl (List.map pkD b)]) ∧ ((Ob.row (3 : Nat) (List.replicate n (pkD pk0)) = Ob.row (3 : Nat) (List.replicate n (pkD pk0))) ∧ ((LoopsS Try.prog (1 : Nat) (loopN Try.prog (34 : Nat) (1 : Nat)) (J34 a b (AV.sub (1 : Nat) (3 : Nat) (0 : Nat) (0 : Nat)) (List.replicate n (pkD pk0)) (0 : Nat)) (Exit.exit (2 : Nat)) (J34 a b (AV.own (1 : Nat) (3 : Nat)) (List.map pkD (a ++ b)) (2 : Nat)) (36 : Nat)) ∧ ((AV.own (1 : Nat) (3 : Nat) = AV.own (1 : Nat) (3 : Nat)) ∧ ((Ob.row (1 : Nat) [D.sl (List.map pkD a), D.sl (List.map pkD b)] = Ob.row (1 : Nat) [D.sl (List.map pkD a), D.sl (List.map pkD b)]) ∧ ((Ob.row (3 : Nat) (List.map pkD (a ++ b)) = Ob.row (3 : Nat) (List.map pkD (a ++ b))) ∧ (True))))))))))))))))))) (h := {H := [(9, [(1, .callN [] (.sub 0 3 0 0) [.row 3 (List.replicate n (pkD pk0))])])]}) (subs := [⟨[], [], I34 a b 0 0, .exit 0, I34 a b 2 n⟩, ⟨[], [], J34 a b (.sub 1 3 0 0) (List.replicate n (pkD pk0)) 0, .exit 2, J34 a b (.own 1 3) ((a ++ b).map pkD) 2⟩]) (ws := []) (ρ := []) (by kernel_rfl) ?_
  have h1 := l34 a b ha hb
  rw [hn] at h1
  have h2 := m34p a b ha hb n
  have h3 := grow41p n n0 (by omega)
  repeat' (first | with_reducible exact True.intro | with_reducible refine And.intro ?_ ?_ | with_reducible refine condP_dec (fun _ => ?_) (fun _ => ?_) | with_reducible refine condP_eq (fun _ => ?_) (fun _ => ?_) | with_reducible refine condP_ne (fun _ => ?_) (fun _ => ?_) | with_reducible refine condP_not (condP_dec (fun _ => ?_) (fun _ => ?_)) | with_reducible refine condP_not (condP_eq (fun _ => ?_) (fun _ => ?_)) | with_reducible refine condP_not (condP_intro (fun _ => ?_) (fun _ => ?_)) | with_reducible refine condP_intro (fun _ => ?_) (fun _ => ?_))
  all_goals first | exact h1 | exact h2 | exact h3 | rfl | skip

theorem concat34 (a b : List Pk) (ha : a.length < 1073741824) (hb : b.length < 1073741824) : FnOK Try.prog 34 [.own 0 1] [.row 1 [.sl (a.map pkD), .sl (b.map pkD)]] (.own 1 3) [.row 1 [.sl (a.map pkD), .sl (b.map pkD)], .row 3 ((a ++ b).map pkD)] := by
  by_cases h : a.length + b.length = 0
  · exact concat34z a b ha hb h
  · exact concat34p a b ha hb _ (by omega) rfl
end Go.Proofs.Ytoagghehabceaaa
