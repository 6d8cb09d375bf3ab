/-
laws 12: a byte taken, joined; the document's Put.
-/
import Derived.Test.YtfacpafkldmkcaaC12S16
set_option linter.unusedSimpArgs false
set_option linter.unusedVariables false
namespace Go.Proofs.Ytfacpafkldmkcaa.C12
open Sx Go.RowKit

theorem sumD_mem {y : Pt} : ∀ {l : List Pt}, y ∈ l → y.d.length ≤ sumD l
  | [], h => by cases h
  | x :: r, h => by
    rw [sumD_cons]
    rcases List.mem_cons.1 h with rfl | h
    · omega
    · have := sumD_mem h; omega
theorem len_sumD : ∀ {l : List Pt}, (∀ y ∈ l, y.d ≠ []) → l.length ≤ sumD l
  | [], _ => by simp
  | x :: r, h => by
    have h1 := List.length_pos_iff.2 (h x (List.mem_cons_self ..))
    have h2 := len_sumD (l := r) (fun y hy => h y (List.mem_cons_of_mem _ hy))
    rw [sumD_cons, List.length_cons]
    omega
theorem ok_in {s : Rq} (h : Ok s) {y : Pt} (hy : y ∈ s.p) : 0 ≤ y.a ∧ y.a ≤ 1099511627776 := by
  have h1 := h.p y hy
  have h2 := pEnd_gt h1.1
  have h3 := srt_gt h.srt y hy
  have h4 := rLim_le s
  have h5 := h.b
  omega
theorem ok_sm {s : Rq} (h : Ok s) (hh : rHeld s < 800000) : ∀ y ∈ s.p, Sm y := fun y hy => by
  have h1 := sumD_mem hy
  have h2 := rHeld_def s
  exact ⟨ok_in h hy, by omega⟩
theorem ok_len {s : Rq} (h : Ok s) (hh : rHeld s < 800000) : s.p.length < 800000 := by
  have h1 := len_sumD (l := s.p) (fun y hy => (h.p y hy).1)
  have h2 := rHeld_def s
  omega
theorem ok_rb {s : Rq} (h : Ok s) (hh : rHeld s < 800000) : Rb s := by
  have h1 := h.b
  have h2 := ok_len h hh
  have h3 := rHeld_def s
  exact ⟨by omega, by omega, by omega, fun x hx => by have := (ok_sm h hh x hx); have h4 := this.a; have h5 := this.d; exact ⟨by omega, by omega⟩⟩
theorem one35 (s : Rq) (h : Ok s) (hh : rHeld s < 800000) (k : Int) (h0 : 0 ≤ k) (c : UInt8) : FnOK Try.prog 46 [.d (rqD s), .d (.int .i64 k), .d (.str [c])] [] (.tup [.d (rqD (rOne s k [c]).1), .d (.bool (rOne s k [c]).2)]) [] := by
  have hb := h.b
  have hl := ok_len h hh
  have hd := rHeld_def s
  have k1 := lim27 s hb.1 hb.2.1 (by omega)
  have k2 := have37 s (by omega) (ok_sm h hh) k
  have hll := rLim_le s
  unfold rOne
  by_cases h1 : k < s.b
  · rw [if_pos h1]; exact o35a s (by omega) (by omega) hb.1 hb.2.1 k [c] rfl _ k1 trivial trivial h1
  · rw [if_neg h1]
    by_cases h2 : k ≥ rLim s
    · rw [if_pos h2]; exact o35b s (by omega) (by omega) hb.1 hb.2.1 k [c] rfl _ k1 trivial trivial h1 h2
    · rw [if_neg h2]
      by_cases h3 : s.p.any (inB k) = true
      · rw [if_pos h3]
        rw [h3] at k2
        exact o35c s (by omega) (by omega) hb.1 hb.2.1 k [c] rfl _ k1 trivial h1 h2 k2
      · rw [if_neg h3]
        rw [Bool.eq_false_iff.2 h3] at k2
        by_cases h4 : k > s.b
        · rw [if_pos h4]
          exact o35d s (by omega) (by omega) hb.1 hb.2.1 k [c] rfl _ k1 h1 h2 k2 h4 _ (ins38j s.p hl k (by omega) [c] (fun y hy => ok_in h hy) (by show sumD s.p + 1 < _; omega))
        · rw [if_neg h4]
          rcases hp : s.p with _ | ⟨f, r⟩
          · have := o35e s (by omega) (by omega) hb.1 hb.2.1 k [c] rfl _ k1 h1 h2 k2 trivial h4 hp
            exact this
          · by_cases hf : f.a = s.b + 1
            · rw [rOneB_y hf]
              have hfd := (ok_sm h hh f (by rw [hp]; exact List.mem_cons_self ..)).d
              exact o35g s (by omega) (by omega) hb.1 hb.2.1 k [c] rfl _ k1 h1 h2 k2 trivial h4 f r hp hf hfd
            · rw [rOneB_n hf]
              exact o35f s (by omega) (by omega) hb.1 hb.2.1 k [c] rfl _ k1 h1 h2 k2 trivial h4 f r hp hf
/-! ### Put -/
def I12 (k : Int) (d : List UInt8) (s : Rq) (n : Int) (j : Nat) : St := ⟨[(1, .d (.int .i64 k)), (2, .d (.str d)), (3, .ptr 0 0), (6, .ptr 1 0), (8, .d (.int .i64 n)), (9, .d (.int .i64 j))], [(0, rqB s), (1, rqZ)]⟩
set_option maxRecDepth 100000 in
set_option maxHeartbeats 1000000 in
theorem r12y (k : Int) (h0 : 0 ≤ k) (h1 : k ≤ 1099511627776) (d : List UInt8) (hd : d.length < 1000000) (s t : Rq) (n : Int) (hn0 : 0 ≤ n ∧ n < 1000000) (j : Nat) (c : UInt8) (hn : d[j]? = some c) (kc : FnOK Try.prog 46 [.d (rqD s), .d (.int .i64 (k + j)), .d (.str [c])] [] (.tup [.d (rqD t), .d (.bool true)]) []) : Runs Try.prog 0 (loopN Try.prog 29 0) (St.as (I12 k d s n j) 49) (.normal) (St.as (I12 k d t (n + 1) (j+1)) 49) := by
  refine round_wp (p := condP (decide ((↑j : Int) < (↑d.length : Int))) (((0 : Int) ≤ (↑j : Int) ∧ (↑j : Int) ≤ IntKind.i64.wrap ((↑j : Int) + (1 : Int)) ∧ IntKind.i64.wrap ((↑j : Int) + (1 : Int)) ≤ (↑d.length : Int)) ∧ ((FnOK Try.prog (46 : Nat) [AV.d (D.agg [D.int IntKind.i64 s.b, D.str s.r, D.sl (List.map ptD s.p)]), AV.d (D.int IntKind.i64 (IntKind.i64.wrap (k + (↑j : Int)))), AV.d (D.str (List.drop (↑j : Int).toNat (List.take (IntKind.i64.wrap ((↑j : Int) + (1 : Int))).toNat d)))] [] (AV.tup [AV.d (D.agg [D.int IntKind.i64 t.b, D.str t.r, D.sl (List.map ptD t.p)]), AV.d (D.bool true)]) []) ∧ ((AV.d (D.int IntKind.i64 k) = AV.d (D.int IntKind.i64 k)) ∧ ((AV.d (D.str d) = AV.d (D.str d)) ∧ ((AV.ptr (0 : Nat) (0 : Nat) = AV.ptr (0 : Nat) (0 : Nat)) ∧ ((AV.ptr (1 : Nat) (0 : Nat) = AV.ptr (1 : Nat) (0 : Nat)) ∧ ((AV.d (D.int IntKind.i64 (IntKind.i64.wrap (n + (1 : Int)))) = AV.d (D.int IntKind.i64 (n + (1 : Int)))) ∧ ((AV.d (D.int IntKind.i64 (IntKind.i64.wrap ((↑j : Int) + (1 : Int)))) = AV.d (D.int IntKind.i64 (↑(j + (1 : Nat)) : Int))) ∧ ((Ob.box [AV.d (D.int IntKind.i64 t.b), AV.d (D.str t.r), AV.d (D.sl (List.map ptD t.p))] = Ob.box [AV.d (D.int IntKind.i64 t.b), AV.d (D.str t.r), AV.d (D.sl (List.map ptD t.p))]) ∧ ((Ob.box [AV.d (D.int IntKind.i64 (0 : Int)), AV.d (D.str []), AV.raw (Value.slice none (0 : Nat) (0 : Nat))] = Ob.box [AV.d (D.int IntKind.i64 (0 : Int)), AV.d (D.str []), AV.raw (Value.slice none (0 : Nat) (0 : Nat))]) ∧ (True))))))))))) (False)) (h := {G := [(46, gAns (.tup [.d (rqD t), .d (.bool true)]))]}) (subs := []) (ws := []) (ρ := []) (by kernel_rfl) ?_
  have hj := get_lt hn
  have hi := inc_i64 (j := j) (by omega)
  have w1 : IntKind.i64.wrap (k + j) = k + j := by rw [IntKind.wrap_i64]; omega
  have w2 : IntKind.i64.wrap (n + 1) = n + 1 := by rw [IntKind.wrap_i64]; omega
  have t1 : List.drop ((j : Int)).toNat (List.take (((j + 1 : Nat) : Int)).toNat d) = [c] := by
    have hl : (d.take j).length = j := by rw [List.length_take]; omega
    rw [Int.toNat_natCast, Int.toNat_natCast, List.take_add_one, hn, List.drop_append, List.drop_of_length_le (by omega), hl, Nat.sub_self]
    rfl
  simp only [hi, w1, w2, t1]
  refine condP_t (by rw [decide_eq_true_eq]; omega) ?_
  repeat' (first | with_reducible exact True.intro | with_reducible refine And.intro ?_ ?_ | with_reducible refine condP_dec (fun _ => ?_) (fun _ => ?_) | with_reducible refine condP_eq (fun _ => ?_) (fun _ => ?_) | with_reducible refine condP_ne (fun _ => ?_) (fun _ => ?_) | with_reducible refine condP_not (condP_dec (fun _ => ?_) (fun _ => ?_)) | with_reducible refine condP_not (condP_eq (fun _ => ?_) (fun _ => ?_)) | with_reducible refine condP_not (condP_intro (fun _ => ?_) (fun _ => ?_)) | with_reducible refine condP_intro (fun _ => ?_) (fun _ => ?_))
  all_goals first | exact kc | rfl | omega | exact dyes (by omega) | exact dno (by omega) | skip

set_option maxRecDepth 100000 in
set_option maxHeartbeats 1000000 in
theorem r12n (k : Int) (h0 : 0 ≤ k) (h1 : k ≤ 1099511627776) (d : List UInt8) (hd : d.length < 1000000) (s t : Rq) (n : Int) (hn0 : 0 ≤ n ∧ n < 1000000) (j : Nat) (c : UInt8) (hn : d[j]? = some c) (kc : FnOK Try.prog 46 [.d (rqD s), .d (.int .i64 (k + j)), .d (.str [c])] [] (.tup [.d (rqD t), .d (.bool false)]) []) : Runs Try.prog 0 (loopN Try.prog 29 0) (St.as (I12 k d s n j) 49) (.normal) (St.as (I12 k d t n (j+1)) 49) := by
  refine round_wp (p := condP (decide ((↑j : Int) < (↑d.length : Int))) (((0 : Int) ≤ (↑j : Int) ∧ (↑j : Int) ≤ IntKind.i64.wrap ((↑j : Int) + (1 : Int)) ∧ IntKind.i64.wrap ((↑j : Int) + (1 : Int)) ≤ (↑d.length : Int)) ∧ ((FnOK Try.prog (46 : Nat) [AV.d (D.agg [D.int IntKind.i64 s.b, D.str s.r, D.sl (List.map ptD s.p)]), AV.d (D.int IntKind.i64 (IntKind.i64.wrap (k + (↑j : Int)))), AV.d (D.str (List.drop (↑j : Int).toNat (List.take (IntKind.i64.wrap ((↑j : Int) + (1 : Int))).toNat d)))] [] (AV.tup [AV.d (D.agg [D.int IntKind.i64 t.b, D.str t.r, D.sl (List.map ptD t.p)]), AV.d (D.bool false)]) []) ∧ ((AV.d (D.int IntKind.i64 k) = AV.d (D.int IntKind.i64 k)) ∧ ((AV.d (D.str d) = AV.d (D.str d)) ∧ ((AV.ptr (0 : Nat) (0 : Nat) = AV.ptr (0 : Nat) (0 : Nat)) ∧ ((AV.ptr (1 : Nat) (0 : Nat) = AV.ptr (1 : Nat) (0 : Nat)) ∧ ((AV.d (D.int IntKind.i64 n) = AV.d (D.int IntKind.i64 n)) ∧ ((AV.d (D.int IntKind.i64 (IntKind.i64.wrap ((↑j : Int) + (1 : Int)))) = AV.d (D.int IntKind.i64 (↑(j + (1 : Nat)) : Int))) ∧ ((Ob.box [AV.d (D.int IntKind.i64 t.b), AV.d (D.str t.r), AV.d (D.sl (List.map ptD t.p))] = Ob.box [AV.d (D.int IntKind.i64 t.b), AV.d (D.str t.r), AV.d (D.sl (List.map ptD t.p))]) ∧ ((Ob.box [AV.d (D.int IntKind.i64 (0 : Int)), AV.d (D.str []), AV.raw (Value.slice none (0 : Nat) (0 : Nat))] = Ob.box [AV.d (D.int IntKind.i64 (0 : Int)), AV.d (D.str []), AV.raw (Value.slice none (0 : Nat) (0 : Nat))]) ∧ (True))))))))))) (False)) (h := {G := [(46, gAns (.tup [.d (rqD t), .d (.bool false)]))]}) (subs := []) (ws := []) (ρ := []) (by kernel_rfl) ?_
  have hj := get_lt hn
  have hi := inc_i64 (j := j) (by omega)
  have w1 : IntKind.i64.wrap (k + j) = k + j := by rw [IntKind.wrap_i64]; omega
  have w2 : IntKind.i64.wrap (n + 1) = n + 1 := by rw [IntKind.wrap_i64]; omega
  have t1 : List.drop ((j : Int)).toNat (List.take (((j + 1 : Nat) : Int)).toNat d) = [c] := by
    have hl : (d.take j).length = j := by rw [List.length_take]; omega
    rw [Int.toNat_natCast, Int.toNat_natCast, List.take_add_one, hn, List.drop_append, List.drop_of_length_le (by omega), hl, Nat.sub_self]
    rfl
  simp only [hi, w1, w2, t1]
  refine condP_t (by rw [decide_eq_true_eq]; omega) ?_
  repeat' (first | with_reducible exact True.intro | with_reducible refine And.intro ?_ ?_ | with_reducible refine condP_dec (fun _ => ?_) (fun _ => ?_) | with_reducible refine condP_eq (fun _ => ?_) (fun _ => ?_) | with_reducible refine condP_ne (fun _ => ?_) (fun _ => ?_) | with_reducible refine condP_not (condP_dec (fun _ => ?_) (fun _ => ?_)) | with_reducible refine condP_not (condP_eq (fun _ => ?_) (fun _ => ?_)) | with_reducible refine condP_not (condP_intro (fun _ => ?_) (fun _ => ?_)) | with_reducible refine condP_intro (fun _ => ?_) (fun _ => ?_))
  all_goals first | exact kc | rfl | omega | exact dyes (by omega) | exact dno (by omega) | skip

set_option maxRecDepth 100000 in
set_option maxHeartbeats 1000000 in
theorem q12 (k : Int) (d : List UInt8) (s : Rq) (n : Int) : Runs Try.prog 0 (loopN Try.prog 29 0) (St.as (I12 k d s n d.length) 49) (.exit 0) (St.as (I12 k d s n d.length) 49) := by
  refine round_wp (p := condP (decide ((↑d.length : Int) < (↑d.length : Int))) (False) ((AV.d (D.int IntKind.i64 k) = AV.d (D.int IntKind.i64 k)) ∧ ((AV.d (D.str d) = AV.d (D.str d)) ∧ ((AV.ptr (0 : Nat) (0 : Nat) = AV.ptr (0 : Nat) (0 : Nat)) ∧ ((AV.ptr (1 : Nat) (0 : Nat) = AV.ptr (1 : Nat) (0 : Nat)) ∧ ((AV.d (D.int IntKind.i64 n) = AV.d (D.int IntKind.i64 n)) ∧ ((AV.d (D.int IntKind.i64 (↑d.length : Int)) = AV.d (D.int IntKind.i64 (↑d.length : Int))) ∧ ((Ob.box [AV.d (D.int IntKind.i64 s.b), AV.d (D.str s.r), AV.d (D.sl (List.map ptD s.p))] = Ob.box [AV.d (D.int IntKind.i64 s.b), AV.d (D.str s.r), AV.d (D.sl (List.map ptD s.p))]) ∧ ((Ob.box [AV.d (D.int IntKind.i64 (0 : Int)), AV.d (D.str []), AV.raw (Value.slice none (0 : Nat) (0 : Nat))] = Ob.box [AV.d (D.int IntKind.i64 (0 : Int)), AV.d (D.str []), AV.raw (Value.slice none (0 : Nat) (0 : Nat))]) ∧ (True)))))))))) (h := {}) (subs := []) (ws := []) (ρ := []) (by kernel_rfl) ?_
  repeat' (first | with_reducible exact True.intro | with_reducible refine And.intro ?_ ?_ | with_reducible refine condP_dec (fun _ => ?_) (fun _ => ?_) | with_reducible refine condP_eq (fun _ => ?_) (fun _ => ?_) | with_reducible refine condP_ne (fun _ => ?_) (fun _ => ?_) | with_reducible refine condP_not (condP_dec (fun _ => ?_) (fun _ => ?_)) | with_reducible refine condP_not (condP_eq (fun _ => ?_) (fun _ => ?_)) | with_reducible refine condP_not (condP_intro (fun _ => ?_) (fun _ => ?_)) | with_reducible refine condP_intro (fun _ => ?_) (fun _ => ?_))
  all_goals (try simp only [List.length_map, AV.d.injEq, D.int.injEq, D.bool.injEq, D.str.injEq, D.sl.injEq, true_and, and_true, decide_eq_true_eq, decide_eq_false_iff_not, decide_eq_decide])
  all_goals (try simp only [List.length_map] at *)
  all_goals first | rfl | omega

set_option maxRecDepth 100000 in
set_option maxHeartbeats 1000000 in
theorem put12n (s : Rq) (hb : Rb s) (k : Int) (d : List UInt8) (e : Int) (he : rChk s = e) (h : k < 0 ∨ k > 1099511627776 ∨ e ≠ 0) : FnOK Try.prog 29 ([.d (rqD s), .d (.int .i64 k), .d (.str d)]) ([]) (.tup [.d (rqD s), .d (.int .i64 0)]) ([]) := by
  refine fnOK_wp (p := condP (e != (0 : Int)) ((FnOK Try.prog (33 : Nat) [AV.d (D.agg [D.int IntKind.i64 s.b, D.str s.r, D.sl (List.map ptD s.p)])] [] (AV.d (D.int IntKind.i64 e)) []) ∧ ((D.bool (e != (0 : Int)) = D.bool true) ∧ ((D.bool true = D.bool true) ∧ ((AV.tup [AV.d (D.agg [D.int IntKind.i64 s.b, D.str s.r, D.sl (List.map ptD s.p)]), AV.d (D.int IntKind.i64 (0 : Int))] = AV.tup [AV.d (D.agg [D.int IntKind.i64 s.b, D.str s.r, D.sl (List.map ptD s.p)]), AV.d (D.int IntKind.i64 (0 : Int))]) ∧ (True))))) (condP (decide (k < (0 : Int))) ((FnOK Try.prog (33 : Nat) [AV.d (D.agg [D.int IntKind.i64 s.b, D.str s.r, D.sl (List.map ptD s.p)])] [] (AV.d (D.int IntKind.i64 e)) []) ∧ ((D.bool (e != (0 : Int)) = D.bool false) ∧ ((D.bool (decide (k < (0 : Int))) = D.bool true) ∧ ((AV.tup [AV.d (D.agg [D.int IntKind.i64 s.b, D.str s.r, D.sl (List.map ptD s.p)]), AV.d (D.int IntKind.i64 (0 : Int))] = AV.tup [AV.d (D.agg [D.int IntKind.i64 s.b, D.str s.r, D.sl (List.map ptD s.p)]), AV.d (D.int IntKind.i64 (0 : Int))]) ∧ (True))))) ((FnOK Try.prog (33 : Nat) [AV.d (D.agg [D.int IntKind.i64 s.b, D.str s.r, D.sl (List.map ptD s.p)])] [] (AV.d (D.int IntKind.i64 e)) []) ∧ ((D.bool (e != (0 : Int)) = D.bool false) ∧ ((D.bool (decide (k < (0 : Int))) = D.bool false) ∧ (condP (decide (k > (1099511627776 : Int))) ((AV.tup [AV.d (D.agg [D.int IntKind.i64 s.b, D.str s.r, D.sl (List.map ptD s.p)]), AV.d (D.int IntKind.i64 (0 : Int))] = AV.tup [AV.d (D.agg [D.int IntKind.i64 s.b, D.str s.r, D.sl (List.map ptD s.p)]), AV.d (D.int IntKind.i64 (0 : Int))]) ∧ (True)) (False))))))) (h := {G := [(33, gAns (.d (.int .i64 e)))]}) (subs := []) (ws := []) (ρ := []) (by kernel_rfl) ?_
  have k1 := chk18 s hb
  rw [he] at k1
  repeat' (first | with_reducible exact True.intro | with_reducible refine And.intro ?_ ?_ | with_reducible refine condP_dec (fun _ => ?_) (fun _ => ?_) | with_reducible refine condP_eq (fun _ => ?_) (fun _ => ?_) | with_reducible refine condP_ne (fun _ => ?_) (fun _ => ?_) | with_reducible refine condP_not (condP_dec (fun _ => ?_) (fun _ => ?_)) | with_reducible refine condP_not (condP_eq (fun _ => ?_) (fun _ => ?_)) | with_reducible refine condP_not (condP_intro (fun _ => ?_) (fun _ => ?_)) | with_reducible refine condP_intro (fun _ => ?_) (fun _ => ?_))
  all_goals first | exact k1 | rfl | exact dyes ‹_› | exact dno ‹_› | (refine congrArg D.bool ?_; assumption) | (refine congrArg D.bool ?_; simp; assumption) | (exfalso; simp_all; omega) | (exfalso; simp_all; done) | skip

set_option maxRecDepth 100000 in
set_option maxHeartbeats 1000000 in
theorem put12y (s : Rq) (hb : Rb s) (k : Int) (h0 : 0 ≤ k) (h1 : k ≤ 1099511627776) (d : List UInt8) (he : rChk s = 0) (t : Rq) (n : Int) (hL : Loops Try.prog 0 (loopN Try.prog 29 0) ((I12 k d s 0 0).as 49) (.exit 0) ((I12 k d t n d.length).as 49)) : FnOK Try.prog 29 ([.d (rqD s), .d (.int .i64 k), .d (.str d)]) ([]) (.tup [.d (rqD t), .d (.int .i64 n)]) ([]) := by
  refine fnOK_wp (p := (FnOK Try.prog (33 : Nat) [AV.d (D.agg [D.int IntKind.i64 s.b, D.str s.r, D.sl (List.map ptD s.p)])] [] (AV.d (D.int IntKind.i64 (0 : Int))) []) ∧ ((D.bool false = D.bool false) ∧ ((D.bool false = D.bool false) ∧ ((D.bool (decide (k < (0 : Int))) = D.bool false) ∧ ((D.bool false = D.bool false) ∧ ((D.bool (decide (k > (1099511627776 : Int))) = D.bool false) ∧ ((AV.d (D.int IntKind.i64 k) = AV.d (D.int IntKind.i64 k)) ∧ ((AV.d (D.str d) = AV.d (D.str d)) ∧ ((AV.ptr (1024 : Nat) (0 : Nat) = AV.ptr (1024 : Nat) (0 : Nat)) ∧ ((AV.ptr (1048 : Nat) (0 : Nat) = AV.ptr (1048 : Nat) (0 : Nat)) ∧ ((AV.d (D.int IntKind.i64 (0 : Int)) = AV.d (D.int IntKind.i64 (0 : Int))) ∧ ((AV.d (D.int IntKind.i64 (0 : Int)) = AV.d (D.int IntKind.i64 (0 : Int))) ∧ ((Ob.box [AV.d (D.int IntKind.i64 s.b), AV.d (D.str s.r), AV.d (D.sl (List.map ptD s.p))] = Ob.box [AV.d (D.int IntKind.i64 s.b), AV.d (D.str s.r), AV.d (D.sl (List.map ptD s.p))]) ∧ ((Ob.box [AV.d (D.int IntKind.i64 (0 : Int)), AV.d (D.str []), AV.raw (Value.slice none (0 : Nat) (0 : Nat))] = Ob.box [AV.d (D.int IntKind.i64 (0 : Int)), AV.d (D.str []), AV.raw (Value.slice none (0 : Nat) (0 : Nat))]) ∧ ((LoopsS Try.prog (0 : Nat) (loopN Try.prog (29 : Nat) (0 : Nat)) (I12 k d s (0 : Int) (0 : Nat)) (Exit.exit (0 : Nat)) (I12 k d t n d.length) (49 : Nat)) ∧ ((AV.tup [AV.d (D.agg [D.int IntKind.i64 t.b, D.str t.r, D.sl (List.map ptD t.p)]), AV.d (D.int IntKind.i64 n)] = AV.tup [AV.d (D.agg [D.int IntKind.i64 t.b, D.str t.r, D.sl (List.map ptD t.p)]), AV.d (D.int IntKind.i64 n)]) ∧ (True))))))))))))))))) (h := {G := [(33, gAns (.d (.int .i64 0)))], H := [(1, [(2, .val (.bool false)), (5, .val (.bool false)), (9, .val (.bool false))])]}) (subs := [⟨[], [], I12 k d s 0 0, .exit 0, I12 k d t n d.length⟩]) (ws := []) (ρ := []) (by kernel_rfl) ?_
  have k1 := chk18 s hb
  rw [he] at k1
  repeat' (first | with_reducible exact True.intro | with_reducible refine And.intro ?_ ?_ | with_reducible refine condP_dec (fun _ => ?_) (fun _ => ?_) | with_reducible refine condP_eq (fun _ => ?_) (fun _ => ?_) | with_reducible refine condP_ne (fun _ => ?_) (fun _ => ?_) | with_reducible refine condP_not (condP_dec (fun _ => ?_) (fun _ => ?_)) | with_reducible refine condP_not (condP_eq (fun _ => ?_) (fun _ => ?_)) | with_reducible refine condP_not (condP_intro (fun _ => ?_) (fun _ => ?_)) | with_reducible refine condP_intro (fun _ => ?_) (fun _ => ?_))
  all_goals first | exact k1 | exact hL | rfl | exact dno (by omega) | skip

theorem put12 (s : Rq) (hb : Rb s) (k : Int) (d : List UInt8) (hd : rHeld s + d.length < 700000) :
    FnOK Try.prog 29 [.d (rqD s), .d (.int .i64 k), .d (.str d)] [] (.tup [.d (rqD (rPut s k d).1), .d (.int .i64 (rPut s k d).2)]) [] := by
  by_cases hno : k < 0 ∨ k > 1099511627776 ∨ rChk s ≠ 0
  · unfold rPut
    rw [if_pos hno]; exact put12n s hb k d _ rfl hno
  · have h := ok_iff.1 (show rChk s = 0 by omega)
    rw [put_same h k (by omega) (by omega)]
    refine put12y s hb k (by omega) (by omega) d (by omega) _ _ ?_
    have hq := q12 k d (dJ s k d).1 (dJ s k d).2.1
    have := loops_n (P := Try.prog) (k := 0) (c := loopN Try.prog 29 0) (e := .exit 0) (I := fun j => (I12 k d (dJ s k (d.take j)).1 (dJ s k (d.take j)).2.1 j).as 49) (by simp) d.length 0 (by omega) (fun j _ hj => ?_) (by simp only [List.take_length]; exact hq)
    · exact this
    · obtain ⟨i1, i2, i3, i4, i5, i6, i7⟩ := dJ_ok h k d j (by omega)
      have hc := get_of hj
      have e : d.take (j + 1) = d.take j ++ [d[j]'hj] := take_snoc hc
      have kc := one35 _ i1 (by omega) (k + j) (by omega) (d[j]'hj)
      show Runs _ _ _ _ _ ((I12 k d (dJ s k (d.take (j + 1))).1 (dJ s k (d.take (j + 1))).2.1 (j + 1)).as _)
      rw [e, dJ_snoc]
      unfold stD
      rw [i5]
      cases hq : (rOne (dJ s k (d.take j)).1 (k + j) [d[j]'hj]).2
      · rw [hq] at kc
        simp only [Bool.false_eq_true, if_false]
        exact r12n k (by omega) (by omega) d (by omega) _ _ _ (by omega) j _ hc kc
      · rw [hq] at kc
        simp only [if_true]
        exact r12y k (by omega) (by omega) d (by omega) _ _ _ (by omega) j _ hc kc
end Go.Proofs.Ytfacpafkldmkcaa.C12
