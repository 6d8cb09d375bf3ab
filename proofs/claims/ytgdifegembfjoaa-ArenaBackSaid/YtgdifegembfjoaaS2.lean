/-
laws 18: the chain of spare cells, both ways; whether cells may be.
-/
import Derived.Test.YtgdifegembfjoaaS1
set_option linter.unusedSimpArgs false
set_option linter.unusedVariables false
namespace Go.Proofs.Ytgdifegembfjoaa
open Sx Go.RowKit

def arB (s : Ar) : Ob := .box [.d (.sl (s.l.map ceD)), .d (.int .i64 s.f), .d (.int .i64 s.u)]
theorem liveAt_of {l : List Ce} {n : Nat} {c : Ce} (h : l[n]? = some c) : liveAt l n = c.v := by unfold liveAt; rw [Int.toNat_natCast, h]; rfl
theorem linkAt_of {l : List Ce} {n : Nat} {c : Ce} (h : l[n]? = some c) : linkAt l n = c.l := by unfold linkAt; rw [Int.toNat_natCast, h]; rfl
theorem valAt_of {l : List Ce} {n : Nat} {c : Ce} (h : l[n]? = some c) : valAt l n = c.x := by unfold valAt; rw [Int.toNat_natCast, h]; rfl
/-! ### The program's chain -/
def I37 (s : Ar) (a : Int) (out : List Int) : St := ⟨[(1, .ptr 0 0), (4, .own 1 1), (5, .d (.int .i64 a))], [(0, arB s), (1, .row 1 (inD out))]⟩
def O37 (out : List Int) (b : Bool) : St := ⟨[(2, .d (.sl (inD out))), (3, .d (.bool b))], []⟩
theorem inD_snoc (l : List Int) (a : Int) : inD (l ++ [a]) = inD l ++ [.int .i64 a] := by unfold inD; rw [List.map_append]; rfl
theorem inD_len (l : List Int) : (inD l).length = l.length := List.length_map ..
set_option maxRecDepth 100000 in
set_option maxHeartbeats 1000000 in
theorem p37 (s : Ar) (n : Nat) (c : Ce) (hn : s.l[n]? = some c) (hv : c.v = false) (out : List Int) (ho : out.length < 1000000) (hm : (n : Int) ∉ out) : Runs Try.prog 0 (restOf Try.prog 37 0) (St.as (I37 s n out) 33) (.goto 0) (St.as (I37 s c.l (out ++ [(n : Int)])) 33) := by
  refine round_wp (p := (D.bool false = D.bool false) ∧ (((0 : Int) ≤ (↑n : Int)) ∧ (((List.map ceD s.l)[(↑n : Int).toNat]? = some (D.agg [D.bool c.v, D.int IntKind.i64 c.x, D.int IntKind.i64 c.l])) ∧ ((D.bool c.v = D.bool false) ∧ ((D.bool false = D.bool false) ∧ ((FnOK Try.prog (44 : Nat) [AV.d (D.sl (inD out)), AV.d (D.int IntKind.i64 (↑n : Int))] [] (AV.d (D.bool false)) []) ∧ ((((inD out).length + [D.int IntKind.i64 (↑n : Int)].length) * (8 : Nat) ≤ (140737488355328 : Nat)) ∧ ((∀ (e : D), e ∈ [D.int IntKind.i64 (↑n : Int)] → e.cells.length = (1 : Nat)) ∧ (((0 : Int) ≤ (↑n : Int)) ∧ (((List.map ceD s.l)[(↑n : Int).toNat]? = some (D.agg [D.bool c.v, D.int IntKind.i64 c.x, D.int IntKind.i64 c.l])) ∧ ((AV.ptr (0 : Nat) (0 : Nat) = AV.ptr (0 : Nat) (0 : Nat)) ∧ ((AV.own (1208 : Nat) (1 : Nat) = AV.own (1208 : Nat) (1 : Nat)) ∧ ((AV.d (D.int IntKind.i64 c.l) = AV.d (D.int IntKind.i64 c.l)) ∧ ((Ob.box [AV.d (D.sl (List.map ceD s.l)), AV.d (D.int IntKind.i64 s.f), AV.d (D.int IntKind.i64 s.u)] = Ob.box [AV.d (D.sl (List.map ceD s.l)), AV.d (D.int IntKind.i64 s.f), AV.d (D.int IntKind.i64 s.u)]) ∧ ((Ob.row (1 : Nat) (inD out ++ [D.int IntKind.i64 (↑n : Int)]) = Ob.row (1 : Nat) (inD (out ++ [(↑n : Int)]))) ∧ (True)))))))))))))))) (h := {H := [(5, [(5, .val (.bool false)), (9, .call [] (.d (.bool false)) [])]), (3, [(1, .val (.bool false))])], els := [(12, .el (ceD c)), (28, .el (ceD c))]}) (subs := []) (ws := []) (ρ := []) (by kernel_rfl) ?_
  have h1 := contains44 out (by omega) n
  rw [decide_eq_false hm] at h1
  have hl := inD_len out
  rw [inD_snoc]
  repeat' (first | with_reducible exact True.intro | with_reducible refine And.intro ?_ ?_ | with_reducible refine condP_dec (fun _ => ?_) (fun _ => ?_) | with_reducible refine condP_eq (fun _ => ?_) (fun _ => ?_) | with_reducible refine condP_ne (fun _ => ?_) (fun _ => ?_) | with_reducible refine condP_not (condP_dec (fun _ => ?_) (fun _ => ?_)) | with_reducible refine condP_not (condP_eq (fun _ => ?_) (fun _ => ?_)) | with_reducible refine condP_not (condP_intro (fun _ => ?_) (fun _ => ?_)) | with_reducible refine condP_intro (fun _ => ?_) (fun _ => ?_))
  all_goals first | exact h1 | rfl | exact el_map hn rfl | omega | (refine congrArg D.bool ?_; exact hv) | (refine congrArg D.bool ?_; simp; omega) | (simp [hl]; omega) | (simp [D.cells]; done) | skip

set_option maxRecDepth 100000 in
set_option maxHeartbeats 1000000 in
theorem e37 (s : Ar) (out : List Int) : Runs Try.prog 0 (restOf Try.prog 37 0) (St.as (I37 s (-1) out) 33) (.ret) (St.as (O37 out true) 33) := by
  refine round_wp (p := (AV.d (D.sl (inD out)) = AV.d (D.sl (inD out))) ∧ ((AV.d (D.bool true) = AV.d (D.bool true)) ∧ (True))) (h := {}) (subs := []) (ws := []) (ρ := []) (by kernel_rfl) ?_
  repeat' (first | with_reducible exact True.intro | with_reducible refine And.intro ?_ ?_ | with_reducible refine condP_dec (fun _ => ?_) (fun _ => ?_) | with_reducible refine condP_eq (fun _ => ?_) (fun _ => ?_) | with_reducible refine condP_ne (fun _ => ?_) (fun _ => ?_) | with_reducible refine condP_not (condP_dec (fun _ => ?_) (fun _ => ?_)) | with_reducible refine condP_not (condP_eq (fun _ => ?_) (fun _ => ?_)) | with_reducible refine condP_not (condP_intro (fun _ => ?_) (fun _ => ?_)) | with_reducible refine condP_intro (fun _ => ?_) (fun _ => ?_))
  all_goals first | rfl | decide | skip

set_option maxRecDepth 100000 in
set_option maxHeartbeats 1000000 in
theorem v37 (s : Ar) (n : Nat) (c : Ce) (hn : s.l[n]? = some c) (hv : c.v = true) (out : List Int) : Runs Try.prog 0 (restOf Try.prog 37 0) (St.as (I37 s n out) 33) (.ret) (St.as (O37 out false) 33) := by
  refine round_wp (p := (D.bool false = D.bool false) ∧ (((0 : Int) ≤ (↑n : Int)) ∧ (((List.map ceD s.l)[(↑n : Int).toNat]? = some (D.agg [D.bool c.v, D.int IntKind.i64 c.x, D.int IntKind.i64 c.l])) ∧ ((D.bool c.v = D.bool true) ∧ ((D.bool true = D.bool true) ∧ ((AV.d (D.sl (inD out)) = AV.d (D.sl (inD out))) ∧ ((AV.d (D.bool false) = AV.d (D.bool false)) ∧ (True)))))))) (h := {H := [(5, [(5, .val (.bool true))]), (3, [(1, .val (.bool false))])], els := [(12, .el (ceD c)), (28, .el (ceD c))]}) (subs := []) (ws := []) (ρ := []) (by kernel_rfl) ?_
  repeat' (first | with_reducible exact True.intro | with_reducible refine And.intro ?_ ?_ | with_reducible refine condP_dec (fun _ => ?_) (fun _ => ?_) | with_reducible refine condP_eq (fun _ => ?_) (fun _ => ?_) | with_reducible refine condP_ne (fun _ => ?_) (fun _ => ?_) | with_reducible refine condP_not (condP_dec (fun _ => ?_) (fun _ => ?_)) | with_reducible refine condP_not (condP_eq (fun _ => ?_) (fun _ => ?_)) | with_reducible refine condP_not (condP_intro (fun _ => ?_) (fun _ => ?_)) | with_reducible refine condP_intro (fun _ => ?_) (fun _ => ?_))
  all_goals first | rfl | exact el_map hn rfl | omega | (refine congrArg D.bool ?_; exact hv) | (refine congrArg D.bool ?_; simp; omega) | skip

set_option maxRecDepth 100000 in
set_option maxHeartbeats 1000000 in
theorem d37 (s : Ar) (n : Nat) (c : Ce) (hn : s.l[n]? = some c) (hv : c.v = false) (out : List Int) (ho : out.length < 1000000) (hm : (n : Int) ∈ out) : Runs Try.prog 0 (restOf Try.prog 37 0) (St.as (I37 s n out) 33) (.ret) (St.as (O37 out false) 33) := by
  refine round_wp (p := (D.bool false = D.bool false) ∧ (((0 : Int) ≤ (↑n : Int)) ∧ (((List.map ceD s.l)[(↑n : Int).toNat]? = some (D.agg [D.bool c.v, D.int IntKind.i64 c.x, D.int IntKind.i64 c.l])) ∧ ((D.bool c.v = D.bool false) ∧ ((D.bool false = D.bool false) ∧ ((FnOK Try.prog (44 : Nat) [AV.d (D.sl (inD out)), AV.d (D.int IntKind.i64 (↑n : Int))] [] (AV.d (D.bool true)) []) ∧ ((AV.d (D.sl (inD out)) = AV.d (D.sl (inD out))) ∧ ((AV.d (D.bool false) = AV.d (D.bool false)) ∧ (True))))))))) (h := {H := [(5, [(5, .val (.bool false)), (9, .call [] (.d (.bool true)) [])]), (3, [(1, .val (.bool false))])], els := [(12, .el (ceD c)), (28, .el (ceD c))]}) (subs := []) (ws := []) (ρ := []) (by kernel_rfl) ?_
  have h1 := contains44 out (by omega) n
  rw [decide_eq_true hm] at h1
  repeat' (first | with_reducible exact True.intro | with_reducible refine And.intro ?_ ?_ | with_reducible refine condP_dec (fun _ => ?_) (fun _ => ?_) | with_reducible refine condP_eq (fun _ => ?_) (fun _ => ?_) | with_reducible refine condP_ne (fun _ => ?_) (fun _ => ?_) | with_reducible refine condP_not (condP_dec (fun _ => ?_) (fun _ => ?_)) | with_reducible refine condP_not (condP_eq (fun _ => ?_) (fun _ => ?_)) | with_reducible refine condP_not (condP_intro (fun _ => ?_) (fun _ => ?_)) | with_reducible refine condP_intro (fun _ => ?_) (fun _ => ?_))
  all_goals first | exact h1 | rfl | exact el_map hn rfl | omega | (refine congrArg D.bool ?_; exact hv) | (refine congrArg D.bool ?_; simp; omega) | skip

theorem l37 (s : Ar) (hp : Pl s.l) (hl : s.l.length < 1000000) : ∀ (n : Nat) (a : Int) (out : List Int), (-1 ≤ a ∧ a < (s.l.length : Int)) → out.Nodup → (∀ x ∈ out, 0 ≤ x ∧ x < (s.l.length : Int)) → n + out.length = s.l.length + 1 →
    Passes Try.prog 0 0 (restOf Try.prog 37 0) ((I37 s a out).as 33) .ret ((O37 (aCh s.l n a out).1 (aCh s.l n a out).2).as 33)
  | 0, a, out, ha, hd, ho, hn => by
    have := nodup_int s.l.length out hd ho
    omega
  | n + 1, a, out, ha, hd, ho, hn => by
    have hol := nodup_int s.l.length out hd ho
    unfold aCh
    by_cases h1 : a = -1
    · subst h1
      rw [if_pos rfl]
      exact .out (e37 s out) (by simp)
    · rw [if_neg h1]
      obtain ⟨m, rfl⟩ := Int.eq_ofNat_of_zero_le (show 0 ≤ a by omega)
      have hm : m < s.l.length := by omega
      have hg := get_of hm
      have hlv := liveAt_of hg
      have hlk := linkAt_of hg
      have hpl := link_pl hp (a := (m : Int)) (by omega) ha.2
      rw [hlv, hlk]
      rw [hlk] at hpl
      cases hv : (s.l[m]).v
      · by_cases h2 : (m : Int) ∈ out
        · rw [if_pos (.inr h2)]
          exact .out (d37 s m _ hg hv out (by omega) h2) (by simp)
        · rw [if_neg (by simp [h2])]
          have hd' : (out ++ [(m : Int)]).Nodup := by
            rw [List.nodup_append]
            exact ⟨hd, by simp, fun x hx y hy => by rw [List.mem_singleton.1 hy]; exact fun e => h2 (e ▸ hx)⟩
          have ho' : ∀ x ∈ out ++ [(m : Int)], 0 ≤ x ∧ x < (s.l.length : Int) := fun x hx => by
            rcases List.mem_append.1 hx with hx | hx
            · exact ho x hx
            · rw [List.mem_singleton.1 hx]; omega
          exact .next (p37 s m _ hg hv out (by omega) h2) (l37 s hp hl n _ _ hpl hd' ho' (by simp; omega))
      · rw [if_pos (.inl rfl)]
        exact .out (v37 s m _ hg hv out) (by simp)
set_option maxRecDepth 100000 in
set_option maxHeartbeats 1000000 in
theorem chain37e (s : Ar) (hf : s.f = -1) : FnOK Try.prog 37 ([.d (arD s)]) ([]) (.tup [.d (.sl (inD [])), .d (.bool true)]) ([]) := by
  refine fnOK_wp (p := (D.bool (s.f == (-1 : Int)) = D.bool true) ∧ ((AV.tup [AV.d (D.sl []), AV.d (D.bool true)] = AV.tup [AV.d (D.sl []), AV.d (D.bool true)]) ∧ (True))) (h := {H := [(3, [(1, .val (.bool true))])]}) (subs := []) (ws := []) (ρ := []) (by kernel_rfl) ?_
  repeat' (first | with_reducible exact True.intro | with_reducible refine And.intro ?_ ?_ | with_reducible refine condP_dec (fun _ => ?_) (fun _ => ?_) | with_reducible refine condP_eq (fun _ => ?_) (fun _ => ?_) | with_reducible refine condP_ne (fun _ => ?_) (fun _ => ?_) | with_reducible refine condP_not (condP_dec (fun _ => ?_) (fun _ => ?_)) | with_reducible refine condP_not (condP_eq (fun _ => ?_) (fun _ => ?_)) | with_reducible refine condP_not (condP_intro (fun _ => ?_) (fun _ => ?_)) | with_reducible refine condP_intro (fun _ => ?_) (fun _ => ?_))
  all_goals first | rfl | (refine congrArg D.bool ?_; simpa using hf) | skip

set_option maxRecDepth 100000 in
set_option maxHeartbeats 1000000 in
theorem chain37v (s : Ar) (n : Nat) (c : Ce) (hn : s.l[n]? = some c) (hf : s.f = n) (hv : c.v = true) : FnOK Try.prog 37 ([.d (arD s)]) ([]) (.tup [.d (.sl (inD [])), .d (.bool false)]) ([]) := by
  refine fnOK_wp (p := (D.bool (s.f == (-1 : Int)) = D.bool false) ∧ (((0 : Int) ≤ s.f) ∧ (((List.map ceD s.l)[s.f.toNat]? = some (D.agg [D.bool c.v, D.int IntKind.i64 c.x, D.int IntKind.i64 c.l])) ∧ ((D.bool c.v = D.bool true) ∧ ((D.bool true = D.bool true) ∧ ((AV.tup [AV.d (D.sl []), AV.d (D.bool false)] = AV.tup [AV.d (D.sl []), AV.d (D.bool false)]) ∧ (True))))))) (h := {H := [(5, [(5, .val (.bool true))]), (3, [(1, .val (.bool false))])], els := [(12, .el (ceD c))]}) (subs := []) (ws := []) (ρ := []) (by kernel_rfl) ?_
  rw [hf]
  repeat' (first | with_reducible exact True.intro | with_reducible refine And.intro ?_ ?_ | with_reducible refine condP_dec (fun _ => ?_) (fun _ => ?_) | with_reducible refine condP_eq (fun _ => ?_) (fun _ => ?_) | with_reducible refine condP_ne (fun _ => ?_) (fun _ => ?_) | with_reducible refine condP_not (condP_dec (fun _ => ?_) (fun _ => ?_)) | with_reducible refine condP_not (condP_eq (fun _ => ?_) (fun _ => ?_)) | with_reducible refine condP_not (condP_intro (fun _ => ?_) (fun _ => ?_)) | with_reducible refine condP_intro (fun _ => ?_) (fun _ => ?_))
  all_goals first | rfl | exact el_map hn rfl | omega | (refine congrArg D.bool ?_; exact hv) | (refine congrArg D.bool ?_; simp; omega) | skip

set_option maxRecDepth 100000 in
set_option maxHeartbeats 1000000 in
theorem chain37p (s : Ar) (n : Nat) (c : Ce) (hn : s.l[n]? = some c) (hf : s.f = n) (hv : c.v = false) (out : List Int) (b : Bool) (hL : Passes Try.prog 0 0 (restOf Try.prog 37 0) ((I37 s c.l [(n : Int)]).as 33) .ret ((O37 out b).as 33)) : FnOK Try.prog 37 ([.d (arD s)]) ([]) (.tup [.d (.sl (inD out)), .d (.bool b)]) ([]) := by
  refine fnOK_wp (p := (D.bool (s.f == (-1 : Int)) = D.bool false) ∧ (((0 : Int) ≤ s.f) ∧ (((List.map ceD s.l)[s.f.toNat]? = some (D.agg [D.bool c.v, D.int IntKind.i64 c.x, D.int IntKind.i64 c.l])) ∧ ((D.bool c.v = D.bool false) ∧ ((D.bool false = D.bool false) ∧ ((FnOK Try.prog (44 : Nat) [AV.d (D.sl []), AV.d (D.int IntKind.i64 s.f)] [] (AV.d (D.bool false)) []) ∧ (((8 : Nat) ≤ (140737488355328 : Nat)) ∧ ((∀ (e : D), e ∈ [D.int IntKind.i64 s.f] → e.cells.length = (1 : Nat)) ∧ (((0 : Int) ≤ s.f) ∧ (((List.map ceD s.l)[s.f.toNat]? = some (D.agg [D.bool c.v, D.int IntKind.i64 c.x, D.int IntKind.i64 c.l])) ∧ ((AV.ptr (1008 : Nat) (0 : Nat) = AV.ptr (1008 : Nat) (0 : Nat)) ∧ ((AV.own (1208 : Nat) (1 : Nat) = AV.own (1208 : Nat) (1 : Nat)) ∧ ((AV.d (D.int IntKind.i64 c.l) = AV.d (D.int IntKind.i64 c.l)) ∧ ((Ob.box [AV.d (D.sl (List.map ceD s.l)), AV.d (D.int IntKind.i64 s.f), AV.d (D.int IntKind.i64 s.u)] = Ob.box [AV.d (D.sl (List.map ceD s.l)), AV.d (D.int IntKind.i64 s.f), AV.d (D.int IntKind.i64 s.u)]) ∧ ((Ob.row (1 : Nat) [D.int IntKind.i64 s.f] = Ob.row (1 : Nat) [D.int IntKind.i64 (↑n : Int)]) ∧ ((PassesS Try.prog (0 : Nat) (0 : Nat) (restOf Try.prog (37 : Nat) (0 : Nat)) (I37 s c.l [(↑n : Int)]) Exit.ret (O37 out b) (33 : Nat)) ∧ ((AV.tup [AV.d (D.sl (inD out)), AV.d (D.bool b)] = AV.tup [AV.d (D.sl (inD out)), AV.d (D.bool b)]) ∧ (True)))))))))))))))))) (h := {H := [(5, [(5, .val (.bool false)), (9, .call [] (.d (.bool false)) [])]), (3, [(1, .val (.bool false))])], els := [(12, .el (ceD c)), (28, .el (ceD c))]}) (subs := [⟨[], [], I37 s c.l [(n : Int)], .ret, O37 out b⟩]) (ws := []) (ρ := []) (by kernel_rfl) ?_
  have h1 := contains44 [] (by decide) n
  rw [hf]
  repeat' (first | with_reducible exact True.intro | with_reducible refine And.intro ?_ ?_ | with_reducible refine condP_dec (fun _ => ?_) (fun _ => ?_) | with_reducible refine condP_eq (fun _ => ?_) (fun _ => ?_) | with_reducible refine condP_ne (fun _ => ?_) (fun _ => ?_) | with_reducible refine condP_not (condP_dec (fun _ => ?_) (fun _ => ?_)) | with_reducible refine condP_not (condP_eq (fun _ => ?_) (fun _ => ?_)) | with_reducible refine condP_not (condP_intro (fun _ => ?_) (fun _ => ?_)) | with_reducible refine condP_intro (fun _ => ?_) (fun _ => ?_))
  all_goals first | exact hL | exact h1 | rfl | exact el_map hn rfl | omega | (refine congrArg D.bool ?_; exact hv) | (refine congrArg D.bool ?_; simp; omega) | (simp [D.cells]; done) | skip

theorem chain37' (s : Ar) (hp : Pl s.l) (hf : -1 ≤ s.f ∧ s.f < (s.l.length : Int)) (hl : s.l.length < 1000000) : FnOK Try.prog 37 [.d (arD s)] [] (.tup [.d (.sl (inD (chA s).1)), .d (.bool (chA s).2)]) [] := by
  unfold chA
  unfold aCh
  by_cases h1 : s.f = -1
  · rw [if_pos h1]; exact chain37e s h1
  · rw [if_neg h1]
    obtain ⟨m, hm0⟩ := Int.eq_ofNat_of_zero_le (show 0 ≤ s.f by omega)
    have hm : m < s.l.length := by omega
    have hg := get_of hm
    have hlv := liveAt_of hg
    have hlk := linkAt_of hg
    have hpl := link_pl hp (a := (m : Int)) (by omega) (by omega)
    rw [hm0, hlv, hlk]
    rw [hlk] at hpl
    cases hv : (s.l[m]).v
    · rw [if_neg (by simp)]
      exact chain37p s m _ hg hm0 hv _ _ (l37 s hp hl s.l.length _ [(m : Int)] hpl (by simp) (fun x hx => by rw [List.mem_singleton.1 hx]; omega) (by simp))
    · rw [if_pos (.inl rfl)]
      exact chain37v s m _ hg hm0 hv
/-! ### The document's chain -/
def I39 (s : Ar) (a : Int) (out : List Int) : St := ⟨[(1, .ptr 0 0), (3, .own 1 1), (4, .d (.int .i64 a))], [(0, arB s), (1, .row 1 (inD out))]⟩
set_option maxRecDepth 100000 in
set_option maxHeartbeats 1000000 in
theorem r39 (s : Ar) (n : Nat) (c : Ce) (hn : s.l[n]? = some c) (out : List Int) (ho : out.length ≤ s.l.length) (hl : s.l.length < 1000000) : Runs Try.prog 0 (loopN Try.prog 39 0) (St.as (I39 s n out) 28) (.normal) (St.as (I39 s c.l (out ++ [(n : Int)])) 28) := by
  refine round_wp (p := (D.bool (decide ((↑(inD out).length : Int) ≤ (↑(List.map ceD s.l).length : Int))) = D.bool true) ∧ ((D.bool true = D.bool true) ∧ ((D.bool true = D.bool true) ∧ ((((inD out).length + [D.int IntKind.i64 (↑n : Int)].length) * (8 : Nat) ≤ (140737488355328 : Nat)) ∧ ((∀ (e : D), e ∈ [D.int IntKind.i64 (↑n : Int)] → e.cells.length = (1 : Nat)) ∧ (((0 : Int) ≤ (↑n : Int)) ∧ (((List.map ceD s.l)[(↑n : Int).toNat]? = some (D.agg [D.bool c.v, D.int IntKind.i64 c.x, D.int IntKind.i64 c.l])) ∧ ((AV.ptr (0 : Nat) (0 : Nat) = AV.ptr (0 : Nat) (0 : Nat)) ∧ ((AV.own (1160 : Nat) (1 : Nat) = AV.own (1160 : Nat) (1 : Nat)) ∧ ((AV.d (D.int IntKind.i64 c.l) = AV.d (D.int IntKind.i64 c.l)) ∧ ((Ob.box [AV.d (D.sl (List.map ceD s.l)), AV.d (D.int IntKind.i64 s.f), AV.d (D.int IntKind.i64 s.u)] = Ob.box [AV.d (D.sl (List.map ceD s.l)), AV.d (D.int IntKind.i64 s.f), AV.d (D.int IntKind.i64 s.u)]) ∧ ((Ob.row (1 : Nat) (inD out ++ [D.int IntKind.i64 (↑n : Int)]) = Ob.row (1 : Nat) (inD (out ++ [(↑n : Int)]))) ∧ (True))))))))))))) (h := {H := [(3, [(5, .val (.bool true)), (8, .val (.bool true))])], els := [(22, .el (ceD c))]}) (subs := []) (ws := []) (ρ := []) (by kernel_rfl) ?_
  have h1 := inD_len out
  rw [inD_snoc]
  simp only [List.length_map]
  repeat' (first | with_reducible exact True.intro | with_reducible refine And.intro ?_ ?_ | with_reducible refine condP_dec (fun _ => ?_) (fun _ => ?_) | with_reducible refine condP_eq (fun _ => ?_) (fun _ => ?_) | with_reducible refine condP_ne (fun _ => ?_) (fun _ => ?_) | with_reducible refine condP_not (condP_dec (fun _ => ?_) (fun _ => ?_)) | with_reducible refine condP_not (condP_eq (fun _ => ?_) (fun _ => ?_)) | with_reducible refine condP_not (condP_intro (fun _ => ?_) (fun _ => ?_)) | with_reducible refine condP_intro (fun _ => ?_) (fun _ => ?_))
  all_goals first | rfl | exact el_map hn rfl | omega | exact dyes (by omega) | (simp [h1]; omega) | (simp [D.cells]; done) | skip

set_option maxRecDepth 100000 in
set_option maxHeartbeats 1000000 in
theorem z39 (s : Ar) (a : Int) (out : List Int) (ho : out.length = s.l.length + 1) : Runs Try.prog 0 (loopN Try.prog 39 0) (St.as (I39 s a out) 28) (.exit 0) (St.as (I39 s a out) 28) := by
  refine round_wp (p := (D.bool (decide ((↑(inD out).length : Int) ≤ (↑(List.map ceD s.l).length : Int))) = D.bool false) ∧ ((D.bool false = D.bool false) ∧ ((AV.ptr (0 : Nat) (0 : Nat) = AV.ptr (0 : Nat) (0 : Nat)) ∧ ((AV.own (1 : Nat) (1 : Nat) = AV.own (1 : Nat) (1 : Nat)) ∧ ((AV.d (D.int IntKind.i64 a) = AV.d (D.int IntKind.i64 a)) ∧ ((Ob.box [AV.d (D.sl (List.map ceD s.l)), AV.d (D.int IntKind.i64 s.f), AV.d (D.int IntKind.i64 s.u)] = Ob.box [AV.d (D.sl (List.map ceD s.l)), AV.d (D.int IntKind.i64 s.f), AV.d (D.int IntKind.i64 s.u)]) ∧ ((Ob.row (1 : Nat) (inD out) = Ob.row (1 : Nat) (inD out)) ∧ (True)))))))) (h := {H := [(3, [(5, .val (.bool false))])]}) (subs := []) (ws := []) (ρ := []) (by kernel_rfl) ?_
  have h1 := inD_len out
  simp only [List.length_map]
  repeat' (first | with_reducible exact True.intro | with_reducible refine And.intro ?_ ?_ | with_reducible refine condP_dec (fun _ => ?_) (fun _ => ?_) | with_reducible refine condP_eq (fun _ => ?_) (fun _ => ?_) | with_reducible refine condP_ne (fun _ => ?_) (fun _ => ?_) | with_reducible refine condP_not (condP_dec (fun _ => ?_) (fun _ => ?_)) | with_reducible refine condP_not (condP_eq (fun _ => ?_) (fun _ => ?_)) | with_reducible refine condP_not (condP_intro (fun _ => ?_) (fun _ => ?_)) | with_reducible refine condP_intro (fun _ => ?_) (fun _ => ?_))
  all_goals first | rfl | exact dno (by omega) | skip

set_option maxRecDepth 100000 in
set_option maxHeartbeats 1000000 in
theorem e39 (s : Ar) (a : Int) (ha : a < 0) (out : List Int) (ho : out.length ≤ s.l.length) : Runs Try.prog 0 (loopN Try.prog 39 0) (St.as (I39 s a out) 28) (.exit 0) (St.as (I39 s a out) 28) := by
  refine round_wp (p := (D.bool (decide ((↑(inD out).length : Int) ≤ (↑(List.map ceD s.l).length : Int))) = D.bool true) ∧ ((D.bool true = D.bool true) ∧ ((D.bool (decide (a ≥ (0 : Int))) = D.bool false) ∧ ((AV.ptr (0 : Nat) (0 : Nat) = AV.ptr (0 : Nat) (0 : Nat)) ∧ ((AV.own (1 : Nat) (1 : Nat) = AV.own (1 : Nat) (1 : Nat)) ∧ ((AV.d (D.int IntKind.i64 a) = AV.d (D.int IntKind.i64 a)) ∧ ((Ob.box [AV.d (D.sl (List.map ceD s.l)), AV.d (D.int IntKind.i64 s.f), AV.d (D.int IntKind.i64 s.u)] = Ob.box [AV.d (D.sl (List.map ceD s.l)), AV.d (D.int IntKind.i64 s.f), AV.d (D.int IntKind.i64 s.u)]) ∧ ((Ob.row (1 : Nat) (inD out) = Ob.row (1 : Nat) (inD out)) ∧ (True))))))))) (h := {H := [(3, [(5, .val (.bool true)), (8, .val (.bool false))])]}) (subs := []) (ws := []) (ρ := []) (by kernel_rfl) ?_
  have h1 := inD_len out
  simp only [List.length_map]
  repeat' (first | with_reducible exact True.intro | with_reducible refine And.intro ?_ ?_ | with_reducible refine condP_dec (fun _ => ?_) (fun _ => ?_) | with_reducible refine condP_eq (fun _ => ?_) (fun _ => ?_) | with_reducible refine condP_ne (fun _ => ?_) (fun _ => ?_) | with_reducible refine condP_not (condP_dec (fun _ => ?_) (fun _ => ?_)) | with_reducible refine condP_not (condP_eq (fun _ => ?_) (fun _ => ?_)) | with_reducible refine condP_not (condP_intro (fun _ => ?_) (fun _ => ?_)) | with_reducible refine condP_intro (fun _ => ?_) (fun _ => ?_))
  all_goals first | rfl | exact dno (by omega) | exact dyes (by omega) | skip

theorem l39 (s : Ar) (hp : Pl s.l) (hl : s.l.length < 1000000) : ∀ (n : Nat) (a : Int) (out : List Int), (-1 ≤ a ∧ a < (s.l.length : Int)) → n + out.length = s.l.length + 1 →
    ∃ a', Loops Try.prog 0 (loopN Try.prog 39 0) ((I39 s a out).as 28) (.exit 0) ((I39 s a' (rCh s.l n a out)).as 28)
  | 0, a, out, ha, hn => ⟨a, .out (z39 s a out (by omega)) (by simp)⟩
  | n + 1, a, out, ha, hn => by
    unfold rCh
    by_cases h : 0 ≤ a
    · rw [if_pos h]
      obtain ⟨m, rfl⟩ := Int.eq_ofNat_of_zero_le h
      have hm : m < s.l.length := by omega
      have hg := get_of hm
      have hlk := linkAt_of hg
      have hpl := link_pl hp (a := (m : Int)) (by omega) ha.2
      rw [hlk] at hpl ⊢
      obtain ⟨a', ih⟩ := l39 s hp hl n _ (out ++ [(m : Int)]) hpl (by simp; omega)
      exact ⟨a', .next (r39 s m _ hg out (by omega) hl) ih⟩
    · rw [if_neg h]
      exact ⟨a, .out (e39 s a (by omega) out (by omega)) (by simp)⟩
set_option maxRecDepth 100000 in
set_option maxHeartbeats 1000000 in
theorem chain39 (s : Ar) (a : Int) (out : List Int) (hL : Loops Try.prog 0 (loopN Try.prog 39 0) ((I39 s s.f []).as 28) (.exit 0) ((I39 s a out).as 28)) : FnOK Try.prog 39 ([.d (arD s)]) ([]) (.d (.sl (inD out))) ([]) := by
  refine fnOK_wp (p := (AV.ptr (1008 : Nat) (0 : Nat) = AV.ptr (1008 : Nat) (0 : Nat)) ∧ ((AV.own (901 : Nat) (1 : Nat) = AV.own (901 : Nat) (1 : Nat)) ∧ ((AV.d (D.int IntKind.i64 s.f) = AV.d (D.int IntKind.i64 s.f)) ∧ ((Ob.box [AV.d (D.sl (List.map ceD s.l)), AV.d (D.int IntKind.i64 s.f), AV.d (D.int IntKind.i64 s.u)] = Ob.box [AV.d (D.sl (List.map ceD s.l)), AV.d (D.int IntKind.i64 s.f), AV.d (D.int IntKind.i64 s.u)]) ∧ ((Ob.row (1 : Nat) [] = Ob.row (1 : Nat) []) ∧ ((LoopsS Try.prog (0 : Nat) (loopN Try.prog (39 : Nat) (0 : Nat)) (I39 s s.f []) (Exit.exit (0 : Nat)) (I39 s a out) (28 : Nat)) ∧ ((AV.d (D.sl (inD out)) = AV.d (D.sl (inD out))) ∧ (True)))))))) (h := {}) (subs := [⟨[], [], I39 s s.f [], .exit 0, I39 s a out⟩]) (ws := []) (ρ := []) (by kernel_rfl) ?_
  repeat' (first | with_reducible exact True.intro | with_reducible refine And.intro ?_ ?_ | with_reducible refine condP_dec (fun _ => ?_) (fun _ => ?_) | with_reducible refine condP_eq (fun _ => ?_) (fun _ => ?_) | with_reducible refine condP_ne (fun _ => ?_) (fun _ => ?_) | with_reducible refine condP_not (condP_dec (fun _ => ?_) (fun _ => ?_)) | with_reducible refine condP_not (condP_eq (fun _ => ?_) (fun _ => ?_)) | with_reducible refine condP_not (condP_intro (fun _ => ?_) (fun _ => ?_)) | with_reducible refine condP_intro (fun _ => ?_) (fun _ => ?_))
  all_goals first | exact hL | rfl | skip

theorem chain39' (s : Ar) (hp : Pl s.l) (hf : -1 ≤ s.f ∧ s.f < (s.l.length : Int)) (hl : s.l.length < 1000000) : FnOK Try.prog 39 [.d (arD s)] [] (.d (.sl (inD (chR s)))) [] := by
  obtain ⟨a, h⟩ := l39 s hp hl (s.l.length + 1) s.f [] hf (by simp)
  exact chain39 s a _ h
/-! ### How many are live -/
theorem aN_snoc {l : List Ce} {j : Nat} {c : Ce} (h : l[j]? = some c) : aN (l.take (j + 1)) = aN (l.take j) + (if c.v then 1 else 0) := by
  unfold aN
  rw [take_snoc h, List.filter_append, List.length_append]
  cases hv : c.v <;> simp [hv]
def I40 (s : Ar) (j : Nat) : St := ⟨[(1, .ptr 0 0), (3, .d (.int .i64 (aN (s.l.take j)))), (4, .d (.int .i64 j))], [(0, arB s)]⟩
set_option maxRecDepth 100000 in
set_option maxHeartbeats 1000000 in
theorem r40 (s : Ar) (hl : s.l.length < 1000000) (j : Nat) (c : Ce) (hn : s.l[j]? = some c) : Runs Try.prog 0 (loopN Try.prog 40 0) (St.as (I40 s j) 21) (.normal) (St.as (I40 s (j+1)) 21) := by
  refine round_wp (p := condP (decide ((↑j : Int) < (↑(List.map ceD s.l).length : Int))) (((0 : Int) ≤ (↑j : Int)) ∧ (((List.map ceD s.l)[(↑j : Int).toNat]? = some (D.agg [D.bool c.v, D.int IntKind.i64 c.x, D.int IntKind.i64 c.l])) ∧ (condP (c.v) ((AV.ptr (0 : Nat) (0 : Nat) = AV.ptr (0 : Nat) (0 : Nat)) ∧ ((AV.d (D.int IntKind.i64 (IntKind.i64.wrap ((↑(aN (List.take j s.l)) : Int) + (1 : Int)))) = AV.d (D.int IntKind.i64 (↑(aN (List.take (j + (1 : Nat)) s.l)) : Int))) ∧ ((AV.d (D.int IntKind.i64 (IntKind.i64.wrap ((↑j : Int) + (1 : Int)))) = AV.d (D.int IntKind.i64 (↑(j + (1 : Nat)) : Int))) ∧ ((Ob.box [AV.d (D.sl (List.map ceD s.l)), AV.d (D.int IntKind.i64 s.f), AV.d (D.int IntKind.i64 s.u)] = Ob.box [AV.d (D.sl (List.map ceD s.l)), AV.d (D.int IntKind.i64 s.f), AV.d (D.int IntKind.i64 s.u)]) ∧ (True))))) ((AV.ptr (0 : Nat) (0 : Nat) = AV.ptr (0 : Nat) (0 : Nat)) ∧ ((AV.d (D.int IntKind.i64 (↑(aN (List.take j s.l)) : Int)) = AV.d (D.int IntKind.i64 (↑(aN (List.take (j + (1 : Nat)) s.l)) : Int))) ∧ ((AV.d (D.int IntKind.i64 (IntKind.i64.wrap ((↑j : Int) + (1 : Int)))) = AV.d (D.int IntKind.i64 (↑(j + (1 : Nat)) : Int))) ∧ ((Ob.box [AV.d (D.sl (List.map ceD s.l)), AV.d (D.int IntKind.i64 s.f), AV.d (D.int IntKind.i64 s.u)] = Ob.box [AV.d (D.sl (List.map ceD s.l)), AV.d (D.int IntKind.i64 s.f), AV.d (D.int IntKind.i64 s.u)]) ∧ (True)))))))) (False)) (h := {els := [(13, .el (ceD c))]}) (subs := []) (ws := []) (ρ := []) (by kernel_rfl) ?_
  have hj := get_lt hn
  have hs := aN_snoc hn
  have hle := aN_le (s.l.take j)
  have ht : (s.l.take j).length ≤ 1000000 := by simp; omega
  have hi := inc_i64 (j := j) (by omega)
  have hw : IntKind.i64.wrap ((aN (s.l.take j) : Int) + 1) = (aN (s.l.take j) : Int) + 1 := by rw [IntKind.wrap_i64]; omega
  rw [hi]
  simp only [List.length_map, hw, hs]
  refine condP_t (by rw [decide_eq_true_eq]; omega) ?_
  repeat' (first | with_reducible exact True.intro | with_reducible refine And.intro ?_ ?_ | with_reducible refine condP_dec (fun _ => ?_) (fun _ => ?_) | with_reducible refine condP_eq (fun _ => ?_) (fun _ => ?_) | with_reducible refine condP_ne (fun _ => ?_) (fun _ => ?_) | with_reducible refine condP_not (condP_dec (fun _ => ?_) (fun _ => ?_)) | with_reducible refine condP_not (condP_eq (fun _ => ?_) (fun _ => ?_)) | with_reducible refine condP_not (condP_intro (fun _ => ?_) (fun _ => ?_)) | with_reducible refine condP_intro (fun _ => ?_) (fun _ => ?_))
  all_goals first | exact el_map hn rfl | rfl | omega | (refine congrArg (fun z => AV.d (D.int .i64 z)) ?_; simp_all; done) | skip

set_option maxRecDepth 100000 in
set_option maxHeartbeats 1000000 in
theorem q40 (s : Ar) : Runs Try.prog 0 (loopN Try.prog 40 0) (St.as (I40 s s.l.length) 21) (.exit 0) (St.as (I40 s s.l.length) 21) := by
  refine round_wp (p := condP (decide ((↑s.l.length : Int) < (↑(List.map ceD s.l).length : Int))) (False) ((AV.ptr (0 : Nat) (0 : Nat) = AV.ptr (0 : Nat) (0 : Nat)) ∧ ((AV.d (D.int IntKind.i64 (↑(aN (List.take s.l.length s.l)) : Int)) = AV.d (D.int IntKind.i64 (↑(aN (List.take s.l.length s.l)) : Int))) ∧ ((AV.d (D.int IntKind.i64 (↑s.l.length : Int)) = AV.d (D.int IntKind.i64 (↑s.l.length : Int))) ∧ ((Ob.box [AV.d (D.sl (List.map ceD s.l)), AV.d (D.int IntKind.i64 s.f), AV.d (D.int IntKind.i64 s.u)] = Ob.box [AV.d (D.sl (List.map ceD s.l)), AV.d (D.int IntKind.i64 s.f), AV.d (D.int IntKind.i64 s.u)]) ∧ (True)))))) (h := {}) (subs := []) (ws := []) (ρ := []) (by kernel_rfl) ?_
  repeat' (first | with_reducible exact True.intro | with_reducible refine And.intro ?_ ?_ | with_reducible refine condP_dec (fun _ => ?_) (fun _ => ?_) | with_reducible refine condP_eq (fun _ => ?_) (fun _ => ?_) | with_reducible refine condP_ne (fun _ => ?_) (fun _ => ?_) | with_reducible refine condP_not (condP_dec (fun _ => ?_) (fun _ => ?_)) | with_reducible refine condP_not (condP_eq (fun _ => ?_) (fun _ => ?_)) | with_reducible refine condP_not (condP_intro (fun _ => ?_) (fun _ => ?_)) | with_reducible refine condP_intro (fun _ => ?_) (fun _ => ?_))
  all_goals (try simp only [List.length_map, AV.d.injEq, D.int.injEq, D.bool.injEq, D.str.injEq, D.sl.injEq, true_and, and_true, decide_eq_true_eq, decide_eq_false_iff_not, decide_eq_decide])
  all_goals (try simp only [List.length_map] at *)
  all_goals first | rfl | omega

set_option maxRecDepth 100000 in
set_option maxHeartbeats 1000000 in
theorem count40' (s : Ar) (hL : Loops Try.prog 0 (loopN Try.prog 40 0) ((I40 s 0).as 21) (.exit 0) ((I40 s s.l.length).as 21)) : FnOK Try.prog 40 ([.d (arD s)]) ([]) (.d (.int .i64 (aN s.l))) ([]) := by
  refine fnOK_wp (p := (AV.ptr (1008 : Nat) (0 : Nat) = AV.ptr (1008 : Nat) (0 : Nat)) ∧ ((AV.d (D.int IntKind.i64 (0 : Int)) = AV.d (D.int IntKind.i64 (↑(aN (List.take (0 : Nat) s.l)) : Int))) ∧ ((AV.d (D.int IntKind.i64 (0 : Int)) = AV.d (D.int IntKind.i64 (0 : Int))) ∧ ((Ob.box [AV.d (D.sl (List.map ceD s.l)), AV.d (D.int IntKind.i64 s.f), AV.d (D.int IntKind.i64 s.u)] = Ob.box [AV.d (D.sl (List.map ceD s.l)), AV.d (D.int IntKind.i64 s.f), AV.d (D.int IntKind.i64 s.u)]) ∧ ((LoopsS Try.prog (0 : Nat) (loopN Try.prog (40 : Nat) (0 : Nat)) (I40 s (0 : Nat)) (Exit.exit (0 : Nat)) (I40 s s.l.length) (21 : Nat)) ∧ ((AV.d (D.int IntKind.i64 (↑(aN (List.take s.l.length s.l)) : Int)) = AV.d (D.int IntKind.i64 (↑(aN s.l) : Int))) ∧ (True))))))) (h := {}) (subs := [⟨[], [], I40 s 0, .exit 0, I40 s s.l.length⟩]) (ws := []) (ρ := []) (by kernel_rfl) ?_
  repeat' (first | with_reducible exact True.intro | with_reducible refine And.intro ?_ ?_ | with_reducible refine condP_dec (fun _ => ?_) (fun _ => ?_) | with_reducible refine condP_eq (fun _ => ?_) (fun _ => ?_) | with_reducible refine condP_ne (fun _ => ?_) (fun _ => ?_) | with_reducible refine condP_not (condP_dec (fun _ => ?_) (fun _ => ?_)) | with_reducible refine condP_not (condP_eq (fun _ => ?_) (fun _ => ?_)) | with_reducible refine condP_not (condP_intro (fun _ => ?_) (fun _ => ?_)) | with_reducible refine condP_intro (fun _ => ?_) (fun _ => ?_))
  all_goals first | exact hL | rfl | (rw [List.take_length]) | skip

theorem count40 (s : Ar) (hl : s.l.length < 1000000) : FnOK Try.prog 40 [.d (arD s)] [] (.d (.int .i64 (aN s.l))) [] :=
  count40' s (loops_n (I := fun j => (I40 s j).as 21) (by simp) s.l.length 0 (by omega) (fun j _ hj => r40 s hl j _ (get_of hj)) (q40 s))
/-! ### Whether they may be: the program's -/
def I19 (s : Ar) (j : Nat) : St := ⟨[(1, .ptr 0 0), (3, .d (.int .i64 (aN (s.l.take j)))), (29, .d (.sl (s.l.map ceD))), (30, .d (.int .i64 s.l.length)), (31, .d (.int .i64 j))], [(0, arB s)]⟩
set_option maxRecDepth 100000 in
set_option maxHeartbeats 1000000 in
theorem r19 (s : Ar) (hl : s.l.length < 1000000) (j : Nat) (c : Ce) (hn : s.l[j]? = some c) : Runs Try.prog 0 (loopN Try.prog 19 0) (St.as (I19 s j) 63) (.normal) (St.as (I19 s (j+1)) 63) := by
  refine round_wp (p := condP (decide ((↑j : Int) < (↑s.l.length : Int))) (((0 : Int) ≤ (↑j : Int)) ∧ (((List.map ceD s.l)[(↑j : Int).toNat]? = some (D.agg [D.bool c.v, D.int IntKind.i64 c.x, D.int IntKind.i64 c.l])) ∧ (condP (c.v) ((AV.ptr (0 : Nat) (0 : Nat) = AV.ptr (0 : Nat) (0 : Nat)) ∧ ((AV.d (D.int IntKind.i64 (IntKind.i64.wrap ((↑(aN (List.take j s.l)) : Int) + (1 : Int)))) = AV.d (D.int IntKind.i64 (↑(aN (List.take (j + (1 : Nat)) s.l)) : Int))) ∧ ((AV.d (D.sl (List.map ceD s.l)) = AV.d (D.sl (List.map ceD s.l))) ∧ ((AV.d (D.int IntKind.i64 (↑s.l.length : Int)) = AV.d (D.int IntKind.i64 (↑s.l.length : Int))) ∧ ((AV.d (D.int IntKind.i64 (IntKind.i64.wrap ((↑j : Int) + (1 : Int)))) = AV.d (D.int IntKind.i64 (↑(j + (1 : Nat)) : Int))) ∧ ((Ob.box [AV.d (D.sl (List.map ceD s.l)), AV.d (D.int IntKind.i64 s.f), AV.d (D.int IntKind.i64 s.u)] = Ob.box [AV.d (D.sl (List.map ceD s.l)), AV.d (D.int IntKind.i64 s.f), AV.d (D.int IntKind.i64 s.u)]) ∧ (True))))))) ((AV.ptr (0 : Nat) (0 : Nat) = AV.ptr (0 : Nat) (0 : Nat)) ∧ ((AV.d (D.int IntKind.i64 (↑(aN (List.take j s.l)) : Int)) = AV.d (D.int IntKind.i64 (↑(aN (List.take (j + (1 : Nat)) s.l)) : Int))) ∧ ((AV.d (D.sl (List.map ceD s.l)) = AV.d (D.sl (List.map ceD s.l))) ∧ ((AV.d (D.int IntKind.i64 (↑s.l.length : Int)) = AV.d (D.int IntKind.i64 (↑s.l.length : Int))) ∧ ((AV.d (D.int IntKind.i64 (IntKind.i64.wrap ((↑j : Int) + (1 : Int)))) = AV.d (D.int IntKind.i64 (↑(j + (1 : Nat)) : Int))) ∧ ((Ob.box [AV.d (D.sl (List.map ceD s.l)), AV.d (D.int IntKind.i64 s.f), AV.d (D.int IntKind.i64 s.u)] = Ob.box [AV.d (D.sl (List.map ceD s.l)), AV.d (D.int IntKind.i64 s.f), AV.d (D.int IntKind.i64 s.u)]) ∧ (True)))))))))) (False)) (h := {els := [(29, .el (ceD c))]}) (subs := []) (ws := []) (ρ := []) (by kernel_rfl) ?_
  have hj := get_lt hn
  have hs := aN_snoc hn
  have hle := aN_le (s.l.take j)
  have ht : (s.l.take j).length ≤ 1000000 := by simp; omega
  have hi := inc_i64 (j := j) (by omega)
  have hw : IntKind.i64.wrap ((aN (s.l.take j) : Int) + 1) = (aN (s.l.take j) : Int) + 1 := by rw [IntKind.wrap_i64]; omega
  rw [hi]
  simp only [List.length_map, hw, hs]
  refine condP_t (by rw [decide_eq_true_eq]; omega) ?_
  repeat' (first | with_reducible exact True.intro | with_reducible refine And.intro ?_ ?_ | with_reducible refine condP_dec (fun _ => ?_) (fun _ => ?_) | with_reducible refine condP_eq (fun _ => ?_) (fun _ => ?_) | with_reducible refine condP_ne (fun _ => ?_) (fun _ => ?_) | with_reducible refine condP_not (condP_dec (fun _ => ?_) (fun _ => ?_)) | with_reducible refine condP_not (condP_eq (fun _ => ?_) (fun _ => ?_)) | with_reducible refine condP_not (condP_intro (fun _ => ?_) (fun _ => ?_)) | with_reducible refine condP_intro (fun _ => ?_) (fun _ => ?_))
  all_goals first | exact el_map hn rfl | rfl | omega | (refine congrArg (fun z => AV.d (D.int .i64 z)) ?_; simp_all; done) | skip

set_option maxRecDepth 100000 in
set_option maxHeartbeats 1000000 in
theorem q19 (s : Ar) : Runs Try.prog 0 (loopN Try.prog 19 0) (St.as (I19 s s.l.length) 63) (.exit 1) (St.as (I19 s s.l.length) 63) := by
  refine round_wp (p := condP (decide ((↑s.l.length : Int) < (↑s.l.length : Int))) (False) ((AV.ptr (0 : Nat) (0 : Nat) = AV.ptr (0 : Nat) (0 : Nat)) ∧ ((AV.d (D.int IntKind.i64 (↑(aN (List.take s.l.length s.l)) : Int)) = AV.d (D.int IntKind.i64 (↑(aN (List.take s.l.length s.l)) : Int))) ∧ ((AV.d (D.sl (List.map ceD s.l)) = AV.d (D.sl (List.map ceD s.l))) ∧ ((AV.d (D.int IntKind.i64 (↑s.l.length : Int)) = AV.d (D.int IntKind.i64 (↑s.l.length : Int))) ∧ ((AV.d (D.int IntKind.i64 (↑s.l.length : Int)) = AV.d (D.int IntKind.i64 (↑s.l.length : Int))) ∧ ((Ob.box [AV.d (D.sl (List.map ceD s.l)), AV.d (D.int IntKind.i64 s.f), AV.d (D.int IntKind.i64 s.u)] = Ob.box [AV.d (D.sl (List.map ceD s.l)), AV.d (D.int IntKind.i64 s.f), AV.d (D.int IntKind.i64 s.u)]) ∧ (True)))))))) (h := {}) (subs := []) (ws := []) (ρ := []) (by kernel_rfl) ?_
  repeat' (first | with_reducible exact True.intro | with_reducible refine And.intro ?_ ?_ | with_reducible refine condP_dec (fun _ => ?_) (fun _ => ?_) | with_reducible refine condP_eq (fun _ => ?_) (fun _ => ?_) | with_reducible refine condP_ne (fun _ => ?_) (fun _ => ?_) | with_reducible refine condP_not (condP_dec (fun _ => ?_) (fun _ => ?_)) | with_reducible refine condP_not (condP_eq (fun _ => ?_) (fun _ => ?_)) | with_reducible refine condP_not (condP_intro (fun _ => ?_) (fun _ => ?_)) | with_reducible refine condP_intro (fun _ => ?_) (fun _ => ?_))
  all_goals (try simp only [List.length_map, AV.d.injEq, D.int.injEq, D.bool.injEq, D.str.injEq, D.sl.injEq, true_and, and_true, decide_eq_true_eq, decide_eq_false_iff_not, decide_eq_decide])
  all_goals (try simp only [List.length_map] at *)
  all_goals first | rfl | omega

set_option maxRecDepth 100000 in
set_option maxHeartbeats 1000000 in
theorem chk19a (s : Ar) (hl : s.l.length < 1000000) (p o : Bool) (h1 : s.l.any (aStray s.l) = p) (h2 : s.l.any aOdd = o) (h : 64 < s.l.length ∨ aPlace s.l s.f = false ∨ p = true ∨ o = true) (r : Int) (hr : (if 64 < s.l.length then 5 else if aPlace s.l s.f = false ∨ p = true then 8 else 4) = r) : FnOK Try.prog 19 ([.d (arD s)]) ([]) (.d (.int .i64 r)) ([]) := by
  refine fnOK_wp (p := condP (decide ((↑(List.map ceD s.l).length : Int) > (64 : Int))) ((AV.d (D.int IntKind.i64 (5 : Int)) = AV.d (D.int IntKind.i64 r)) ∧ (True)) ((FnOK Try.prog (33 : Nat) [AV.d (D.agg [D.sl (List.map ceD s.l), D.int IntKind.i64 s.f, D.int IntKind.i64 s.u]), AV.d (D.int IntKind.i64 s.f)] [] (AV.d (D.bool (aPlace s.l s.f))) []) ∧ (condP (!aPlace s.l s.f) (condP (!aPlace s.l s.f) ((AV.d (D.int IntKind.i64 (8 : Int)) = AV.d (D.int IntKind.i64 r)) ∧ (True)) ((FnOK Try.prog (34 : Nat) [AV.d (D.sl (List.map ceD s.l)), AV.fn (36 : Nat) []] [] (AV.d (D.bool o)) []) ∧ (condP (o) ((AV.d (D.int IntKind.i64 (4 : Int)) = AV.d (D.int IntKind.i64 r)) ∧ (True)) ((AV.ptr (1008 : Nat) (0 : Nat) = AV.ptr (1008 : Nat) (0 : Nat)) ∧ ((AV.d (D.int IntKind.i64 (0 : Int)) = AV.d (D.int IntKind.i64 (↑(aN (List.take (0 : Nat) s.l)) : Int))) ∧ ((AV.d (D.sl (List.map ceD s.l)) = AV.d (D.sl (List.map ceD s.l))) ∧ ((AV.d (D.int IntKind.i64 (↑(List.map ceD s.l).length : Int)) = AV.d (D.int IntKind.i64 (↑s.l.length : Int))) ∧ ((AV.d (D.int IntKind.i64 (0 : Int)) = AV.d (D.int IntKind.i64 (0 : Int))) ∧ ((Ob.box [AV.d (D.sl (List.map ceD s.l)), AV.d (D.int IntKind.i64 s.f), AV.d (D.int IntKind.i64 s.u)] = Ob.box [AV.d (D.sl (List.map ceD s.l)), AV.d (D.int IntKind.i64 s.f), AV.d (D.int IntKind.i64 s.u)]) ∧ ((LoopsS Try.prog (0 : Nat) (loopN Try.prog (19 : Nat) (0 : Nat)) (I19 s (0 : Nat)) (Exit.exit (1 : Nat)) (I19 s s.l.length) (63 : Nat)) ∧ (False))))))))))) ((FnOK Try.prog (34 : Nat) [AV.d (D.sl (List.map ceD s.l)), AV.meth (35 : Nat) [AV.d (D.agg [D.sl (List.map ceD s.l), D.int IntKind.i64 s.f, D.int IntKind.i64 s.u])]] [] (AV.d (D.bool p)) []) ∧ (condP (p) ((AV.d (D.int IntKind.i64 (8 : Int)) = AV.d (D.int IntKind.i64 r)) ∧ (True)) ((FnOK Try.prog (34 : Nat) [AV.d (D.sl (List.map ceD s.l)), AV.fn (36 : Nat) []] [] (AV.d (D.bool o)) []) ∧ (condP (o) ((AV.d (D.int IntKind.i64 (4 : Int)) = AV.d (D.int IntKind.i64 r)) ∧ (True)) ((AV.ptr (1008 : Nat) (0 : Nat) = AV.ptr (1008 : Nat) (0 : Nat)) ∧ ((AV.d (D.int IntKind.i64 (0 : Int)) = AV.d (D.int IntKind.i64 (↑(aN (List.take (0 : Nat) s.l)) : Int))) ∧ ((AV.d (D.sl (List.map ceD s.l)) = AV.d (D.sl (List.map ceD s.l))) ∧ ((AV.d (D.int IntKind.i64 (↑(List.map ceD s.l).length : Int)) = AV.d (D.int IntKind.i64 (↑s.l.length : Int))) ∧ ((AV.d (D.int IntKind.i64 (0 : Int)) = AV.d (D.int IntKind.i64 (0 : Int))) ∧ ((Ob.box [AV.d (D.sl (List.map ceD s.l)), AV.d (D.int IntKind.i64 s.f), AV.d (D.int IntKind.i64 s.u)] = Ob.box [AV.d (D.sl (List.map ceD s.l)), AV.d (D.int IntKind.i64 s.f), AV.d (D.int IntKind.i64 s.u)]) ∧ ((LoopsS Try.prog (0 : Nat) (loopN Try.prog (19 : Nat) (0 : Nat)) (I19 s (0 : Nat)) (Exit.exit (1 : Nat)) (I19 s s.l.length) (63 : Nat)) ∧ (False))))))))))))))) (h := {G := [(33, gAns (.d (.bool (aPlace s.l s.f))))], H := [(4, [(4, .call [] (.d (.bool p)) [])]), (6, [(2, .call [] (.d (.bool o)) [])])]}) (subs := [⟨[], [], I19 s 0, .exit 1, I19 s s.l.length⟩]) (ws := []) (ρ := []) (by kernel_rfl) ?_
  have k1 := place33 s s.f
  have k2 := ceD_containsM 35 (arD s) (aStray s.l) s.l (by omega) (fun c _ => strays35 s c)
  have k3 := ceD_containsF 36 aOdd s.l (by omega) (fun c _ => odd36 c)
  rw [h1] at k2
  rw [h2] at k3
  simp only [List.length_map]
  subst hr
  generalize aPlace s.l s.f = f at *
  repeat' (first | with_reducible exact True.intro | with_reducible refine And.intro ?_ ?_ | with_reducible refine condP_dec (fun _ => ?_) (fun _ => ?_) | with_reducible refine condP_eq (fun _ => ?_) (fun _ => ?_) | with_reducible refine condP_ne (fun _ => ?_) (fun _ => ?_) | with_reducible refine condP_not (condP_dec (fun _ => ?_) (fun _ => ?_)) | with_reducible refine condP_not (condP_eq (fun _ => ?_) (fun _ => ?_)) | with_reducible refine condP_not (condP_intro (fun _ => ?_) (fun _ => ?_)) | with_reducible refine condP_intro (fun _ => ?_) (fun _ => ?_))
  all_goals first | exact k1 | exact k2 | exact k3 | rfl | (exfalso; simp_all; omega) | (exfalso; simp_all; done) | (refine congrArg (fun z => AV.d (D.int .i64 z)) ?_; (repeat' split) <;> first | rfl | omega | (simp_all; done) | (exfalso; simp_all; omega)) | skip

set_option maxRecDepth 100000 in
set_option maxHeartbeats 1000000 in
theorem chk19b (s : Ar) (hl : s.l.length < 1000000) (p o : Bool) (h1 : s.l.any (aStray s.l) = p) (h2 : s.l.any aOdd = o) (hp : p = false) (ho : o = false) (h64 : s.l.length ≤ 64) (hf : aPlace s.l s.f = true) (hL : Loops Try.prog 0 (loopN Try.prog 19 0) ((I19 s 0).as 63) (.exit 1) ((I19 s s.l.length).as 63)) (out : List Int) (b : Bool) (hc : FnOK Try.prog 37 [.d (arD s)] [] (.tup [.d (.sl (inD out)), .d (.bool b)]) []) (ho2 : out.length ≤ 1000000) : FnOK Try.prog 19 ([.d (arD s)]) ([]) (.d (.int .i64 (if (!b || decide ((aN s.l : Int) ≠ s.u) || decide (aN s.l + out.length ≠ s.l.length)) = true then 10 else 0))) ([]) := by
  refine fnOK_wp (p := (D.bool (decide ((↑(List.map ceD s.l).length : Int) > (64 : Int))) = D.bool false) ∧ ((FnOK Try.prog (33 : Nat) [AV.d (D.agg [D.sl (List.map ceD s.l), D.int IntKind.i64 s.f, D.int IntKind.i64 s.u]), AV.d (D.int IntKind.i64 s.f)] [] (AV.d (D.bool true)) []) ∧ ((FnOK Try.prog (34 : Nat) [AV.d (D.sl (List.map ceD s.l)), AV.meth (35 : Nat) [AV.d (D.agg [D.sl (List.map ceD s.l), D.int IntKind.i64 s.f, D.int IntKind.i64 s.u])]] [] (AV.d (D.bool false)) []) ∧ ((FnOK Try.prog (34 : Nat) [AV.d (D.sl (List.map ceD s.l)), AV.fn (36 : Nat) []] [] (AV.d (D.bool false)) []) ∧ ((AV.ptr (1008 : Nat) (0 : Nat) = AV.ptr (1008 : Nat) (0 : Nat)) ∧ ((AV.d (D.int IntKind.i64 (0 : Int)) = AV.d (D.int IntKind.i64 (↑(aN (List.take (0 : Nat) s.l)) : Int))) ∧ ((AV.d (D.sl (List.map ceD s.l)) = AV.d (D.sl (List.map ceD s.l))) ∧ ((AV.d (D.int IntKind.i64 (↑(List.map ceD s.l).length : Int)) = AV.d (D.int IntKind.i64 (↑s.l.length : Int))) ∧ ((AV.d (D.int IntKind.i64 (0 : Int)) = AV.d (D.int IntKind.i64 (0 : Int))) ∧ ((Ob.box [AV.d (D.sl (List.map ceD s.l)), AV.d (D.int IntKind.i64 s.f), AV.d (D.int IntKind.i64 s.u)] = Ob.box [AV.d (D.sl (List.map ceD s.l)), AV.d (D.int IntKind.i64 s.f), AV.d (D.int IntKind.i64 s.u)]) ∧ ((LoopsS Try.prog (0 : Nat) (loopN Try.prog (19 : Nat) (0 : Nat)) (I19 s (0 : Nat)) (Exit.exit (1 : Nat)) (I19 s s.l.length) (63 : Nat)) ∧ ((FnOK Try.prog (37 : Nat) [AV.d (D.agg [D.sl (List.map ceD s.l), D.int IntKind.i64 s.f, D.int IntKind.i64 s.u])] [] (AV.tup [AV.d (D.sl (inD out)), AV.d (D.bool b)]) []) ∧ (condP (!b) (((D.bool !b) = D.bool true) ∧ ((D.bool true = D.bool true) ∧ ((AV.d (D.int IntKind.i64 (10 : Int)) = AV.d (D.int IntKind.i64 (if (!b || decide ((↑(aN s.l) : Int) ≠ s.u) || decide (aN s.l + out.length ≠ s.l.length)) = true then (10 : Int) else (0 : Int)))) ∧ (True)))) (condP ((↑(aN (List.take s.l.length s.l)) : Int) != s.u) (((D.bool !b) = D.bool false) ∧ ((D.bool ((↑(aN (List.take s.l.length s.l)) : Int) != s.u) = D.bool true) ∧ ((AV.d (D.int IntKind.i64 (10 : Int)) = AV.d (D.int IntKind.i64 (if (!b || decide ((↑(aN s.l) : Int) ≠ s.u) || decide (aN s.l + out.length ≠ s.l.length)) = true then (10 : Int) else (0 : Int)))) ∧ (True)))) (((D.bool !b) = D.bool false) ∧ ((D.bool ((↑(aN (List.take s.l.length s.l)) : Int) != s.u) = D.bool false) ∧ (condP (IntKind.i64.wrap ((↑(aN (List.take s.l.length s.l)) : Int) + (↑(inD out).length : Int)) != (↑(List.map ceD s.l).length : Int)) ((AV.d (D.int IntKind.i64 (10 : Int)) = AV.d (D.int IntKind.i64 (if (!b || decide ((↑(aN s.l) : Int) ≠ s.u) || decide (aN s.l + out.length ≠ s.l.length)) = true then (10 : Int) else (0 : Int)))) ∧ (True)) ((AV.d (D.int IntKind.i64 (0 : Int)) = AV.d (D.int IntKind.i64 (if (!b || decide ((↑(aN s.l) : Int) ≠ s.u) || decide (aN s.l + out.length ≠ s.l.length)) = true then (10 : Int) else (0 : Int)))) ∧ (True))))))))))))))))))) (h := {G := [(33, gAns (.d (.bool true))), (37, gAns (.tup [.d (.sl (inD out)), .d (.bool b)]))], H := [(1, [(3, .val (.bool false))]), (4, [(4, .call [] (.d (.bool false)) [])]), (6, [(2, .call [] (.d (.bool false)) [])])]}) (subs := [⟨[], [], I19 s 0, .exit 1, I19 s s.l.length⟩]) (ws := []) (ρ := []) (by kernel_rfl) ?_
  have k1 := place33 s s.f
  have k2 := ceD_containsM 35 (arD s) (aStray s.l) s.l (by omega) (fun c _ => strays35 s c)
  have k3 := ceD_containsF 36 aOdd s.l (by omega) (fun c _ => odd36 c)
  rw [h1] at k2
  rw [h2] at k3
  simp only [List.length_map]
  rw [hf] at k1
  rw [hp] at k2
  rw [ho] at k3
  have hle := aN_le s.l
  have hil := inD_len out
  have hw : IntKind.i64.wrap ((aN (s.l.take s.l.length) : Int) + ((inD out).length : Int)) = ((aN s.l + out.length : Nat) : Int) := by rw [List.take_length, hil, IntKind.wrap_i64]; omega
  simp only [hw]
  rw [List.take_length]
  repeat' (first | with_reducible exact True.intro | with_reducible refine And.intro ?_ ?_ | with_reducible refine condP_dec (fun _ => ?_) (fun _ => ?_) | with_reducible refine condP_eq (fun _ => ?_) (fun _ => ?_) | with_reducible refine condP_ne (fun _ => ?_) (fun _ => ?_) | with_reducible refine condP_not (condP_dec (fun _ => ?_) (fun _ => ?_)) | with_reducible refine condP_not (condP_eq (fun _ => ?_) (fun _ => ?_)) | with_reducible refine condP_not (condP_intro (fun _ => ?_) (fun _ => ?_)) | with_reducible refine condP_intro (fun _ => ?_) (fun _ => ?_))
  all_goals first | exact k1 | exact k2 | exact k3 | exact hL | exact hc | rfl | exact dno (by omega) | (refine congrArg D.bool ?_; simp_all; done) | (refine congrArg (fun z => AV.d (D.int .i64 z)) ?_; simp_all; done) | (refine congrArg (fun z => AV.d (D.int .i64 z)) ?_; simp_all; omega) | (exfalso; simp_all; omega) | (exfalso; simp_all; done) | skip

theorem chk19 (s : Ar) (hl : s.l.length < 1000000) : FnOK Try.prog 19 [.d (arD s)] [] (.d (.int .i64 (aChk s))) [] := by
  by_cases h : 64 < s.l.length ∨ aPlace s.l s.f = false ∨ s.l.any (aStray s.l) = true ∨ s.l.any aOdd = true
  · refine chk19a s hl _ _ rfl rfl h _ ?_
    unfold aChk
    by_cases h1 : 64 < s.l.length
    · rw [if_pos h1, if_pos h1]
    · rw [if_neg h1, if_neg h1]
      by_cases h2 : aPlace s.l s.f = false ∨ s.l.any (aStray s.l) = true
      · rw [if_pos h2, if_pos h2]
      · rw [if_neg h2, if_neg h2]
        have h3 : s.l.any aOdd = true := by
          rcases h with h | h | h | h
          · exact absurd h h1
          · exact absurd (.inl h) h2
          · exact absurd (.inr h) h2
          · exact h
        rw [if_pos h3]
  · have h1 : ¬64 < s.l.length := fun g => h (.inl g)
    have h2 : aPlace s.l s.f = true := by cases g : aPlace s.l s.f; exact absurd (.inr (.inl g)) h; rfl
    have h3 : s.l.any (aStray s.l) = false := by cases g : s.l.any (aStray s.l); rfl; exact absurd (.inr (.inr (.inl g))) h
    have h4 : s.l.any aOdd = false := by cases g : s.l.any aOdd; rfl; exact absurd (.inr (.inr (.inr g))) h
    obtain ⟨p1, p2⟩ := pl_of h2 h3 h4
    have e : aChk s = if (!(chA s).2 || decide ((aN s.l : Int) ≠ s.u) || decide (aN s.l + (chA s).1.length ≠ s.l.length)) = true then 10 else 0 := by
      unfold aChk
      rw [if_neg h1, if_neg (by rw [h2, h3]; simp), if_neg (by rw [h4]; simp)]; rfl
    have hlen : (chA s).1.length ≤ 1000000 := by
      have := aCh_len s.l (s.l.length + 1) s.f []
      simp at this
      show (aCh s.l (s.l.length + 1) s.f []).1.length ≤ _
      omega
    rw [e]
    exact chk19b s hl _ _ rfl rfl h3 h4 (by omega) h2 (loops_n (I := fun j => (I19 s j).as 63) (by simp) s.l.length 0 (by omega) (fun j _ hj => r19 s hl j _ (get_of hj)) (q19 s)) _ _ (chain37' s p1 p2 hl) hlen
end Go.Proofs.Ytgdifegembfjoaa
