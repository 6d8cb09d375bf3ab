/-
laws 31: a byte changed twice, taken twice, dropped one by one. No condition beyond the statement's own.
-/
import Derived.Test.YtoagghehabceaaaS7
set_option linter.unusedSimpArgs false
set_option linter.unusedVariables false
namespace Go.Proofs.Ytoagghehabceaaa
open Sx Go.RowKit

/-! ### Plain -/
def ls0 : Ls := ⟨[], 0, 0⟩
def lRun (l : List Pk) : Ls := l.foldl lSend ls0
structure Inv (x : Ls) : Prop where
  chk : lChk x = 0
  c : x.c = 0
  sm : ∀ y ∈ x.l, Sm y
theorem inv0 : Inv ls0 := ⟨by decide, rfl, by intro y hy; cases hy⟩
theorem inv_send {x : Ls} {p : Pk} (h : Inv x) (hp : Sm p) : Inv (lSend x p) := by
  unfold lSend
  split
  · next hb =>
    have hb : lChk x = 0 ∧ lWrong p = false ∧ x.l.length < 200 ∧ x.s < 1099511627776 := of_decide_eq_true hb
    obtain ⟨-, h2, h3, h4⟩ := hb
    obtain ⟨q1, q2, q3, q4, q5, q6⟩ := chk_zero.1 h.chk
    refine ⟨chk_zero.2 ⟨?_, fun y hy => ?_, ?_, ?_, q5, q6⟩, h.c, fun y hy => ?_⟩
    · simp; omega
    · rcases List.mem_append.1 hy with hy | hy
      · exact q2 y hy
      · rw [List.mem_singleton.1 hy]; exact h2
    · show 0 ≤ x.s + 1; omega
    · show x.s + 1 ≤ _; omega
    · rcases List.mem_append.1 hy with hy | hy
      · exact h.sm y hy
      · rw [List.mem_singleton.1 hy]; exact hp
  · exact h
theorem inv_run {l : List Pk} (hl : ∀ p ∈ l, Sm p) : ∀ {x : Ls}, Inv x → Inv (l.foldl lSend x) := by
  induction l with
  | nil => intro x h; exact h
  | cons p r ih => intro x h; exact ih (fun q hq => hl q (by simp [hq])) (inv_send h (hl p (by simp)))
theorem send_len (x : Ls) (p : Pk) : (lSend x p).l.length ≤ x.l.length + 1 := by unfold lSend; split <;> simp
theorem run_len (l : List Pk) : ∀ x : Ls, (l.foldl lSend x).l.length ≤ x.l.length + l.length := by
  induction l with
  | nil => intro x; simp
  | cons p r ih => intro x; have := ih (lSend x p); have := send_len x p; simp only [List.foldl_cons, List.length_cons]; omega
theorem lRun_succ {l : List Pk} {j : Nat} {p : Pk} (h : l[j]? = some p) : lSend (lRun (l.take j)) p = lRun (l.take (j + 1)) := (foldl_snoc lSend ls0 l j p h).symm
theorem xor_twice (c b : UInt8) : c ^^^ b ^^^ b = c := by rw [UInt8.xor_assoc, UInt8.xor_self, UInt8.xor_zero]
theorem flipB_len (d : List UInt8) (a b : Int) : (flipB d a b).length = d.length := List.length_set ..
theorem flipB_twice (d : List UInt8) (a b : Int) (hd : d ≠ []) : flipB (flipB d a b) a b = d := by
  have hp := List.length_pos_iff.2 hd
  unfold flipB
  rw [List.length_set]
  have h0 : 0 ≤ a % (d.length : Int) := Int.emod_nonneg _ (by omega)
  have h1 : a % (d.length : Int) < d.length := Int.emod_lt_of_pos _ (by omega)
  obtain ⟨k, hk⟩ := Int.eq_ofNat_of_zero_le h0
  rw [hk, Int.toNat_natCast]
  have hkl : k < d.length := by omega
  rw [List.getElem?_set_self hkl]
  simp only [Option.getD_some, List.set_set]
  rw [get_of hkl, Option.getD_some, xor_twice]
  exact List.set_getElem_self hkl
theorem wrong_flip (x : Pk) (a b : Int) : lWrong (flipP x a b) = lWrong x := rfl
theorem chk_set {x : Ls} {m : Nat} {y z : Pk} (h : lChk x = 0) (hy : x.l[m]? = some y) (hz : lWrong z = lWrong y) : lChk ⟨x.l.set m z, x.s, x.c⟩ = 0 := by
  obtain ⟨q1, q2, q3⟩ := chk_zero.1 h
  refine chk_zero.2 ⟨by simpa using q1, fun p hp => ?_, q3⟩
  rcases List.mem_or_eq_of_mem_set hp with hp | rfl
  · exact q2 p hp
  · rw [hz]; exact q2 y (get_mem hy)
theorem flip_twice {x : Ls} {m : Nat} {y : Pk} (h : lChk x = 0) (hy : x.l[m]? = some y) (b : Int) : lFlip (lFlip x m b b) m b b = x := by
  have hm := get_lt hy
  have ht : lThere x m = true := there_iff.2 ⟨h, by omega, by omega⟩
  have hp : lTakeP x m = y := by unfold lTakeP; rw [ht, Int.toNat_natCast, hy]; rfl
  cases hf : lFlipB x m b b
  · have e : lFlip x m b b = x := by unfold lFlip; rw [hf]; rfl
    rw [e, e]
  · have hd : 0 ≤ b ∧ y.d ≠ [] := by
      unfold lFlipB at hf
      rw [Bool.and_eq_true] at hf
      have := of_decide_eq_true hf.2
      rw [hp] at this
      exact ⟨this.1, this.2.2⟩
    have e : lFlip x m b b = ⟨x.l.set m (flipP y b b), x.s, x.c⟩ := by unfold lFlip; rw [hf, hp, Int.toNat_natCast]; rfl
    rw [e]
    have hc := chk_set h hy (wrong_flip y b b)
    have hg : (x.l.set m (flipP y b b))[m]? = some (flipP y b b) := List.getElem?_set_self hm
    have ht2 : lThere ⟨x.l.set m (flipP y b b), x.s, x.c⟩ m = true := there_iff.2 ⟨hc, by omega, by simp; omega⟩
    have hp2 : lTakeP ⟨x.l.set m (flipP y b b), x.s, x.c⟩ m = flipP y b b := by unfold lTakeP; rw [ht2, Int.toNat_natCast, if_pos rfl]; show ((x.l.set m (flipP y b b))[m]?).getD pk0 = _; rw [hg]; rfl
    have hne : (flipP y b b).d ≠ [] := by
      intro h0
      have h1 := flipB_len y.d b b
      have h2 : flipB y.d b b = [] := h0
      rw [h2] at h1
      exact hd.2 (List.eq_nil_of_length_eq_zero h1.symm)
    have hf2 : lFlipB ⟨x.l.set m (flipP y b b), x.s, x.c⟩ m b b = true := by
      unfold lFlipB
      rw [ht2, hp2, decide_eq_true ⟨hd.1, hd.1, hne⟩]; rfl
    unfold lFlip
    rw [hf2, hp2, Int.toNat_natCast]
    show (⟨(x.l.set m (flipP y b b)).set m (flipP (flipP y b b) b b), x.s, x.c⟩ : Ls) = x
    have e2 : flipP (flipP y b b) b b = y := by
      unfold flipP
      show (⟨y.p, y.t, flipB (flipB y.d b b) b b⟩ : Pk) = y
      rw [flipB_twice _ _ _ hd.2]
    rw [e2, List.set_set]
    have e3 : x.l.set m y = x.l := by
      have : x.l[m] = y := by rw [get_of hm] at hy; exact Option.some.inj hy
      rw [← this]; exact List.set_getElem_self hm
    rw [e3]
theorem flip_sm {x : Ls} {m : Int} {a b : Int} (h : ∀ y ∈ x.l, Sm y) : ∀ y ∈ (lFlip x m a b).l, Sm y := by
  unfold lFlip
  split
  · next hf =>
    intro y hy
    rcases List.mem_or_eq_of_mem_set hy with hy | rfl
    · exact h y hy
    · have ht : lThere x m = true := by unfold lFlipB at hf; rw [Bool.and_eq_true] at hf; exact hf.1
      obtain ⟨k, z, -, h1, h2⟩ := there_in ht
      rw [h2]
      show (flipB z.d a b).length ≤ 200
      rw [flipB_len]; exact h z (get_mem h1)
  · exact h
theorem drop_step {l : List Pk} {s : Int} {j : Nat} (hc : lChk ⟨l, s, 0⟩ = 0) (hj : j < l.length) : lDrop ⟨l.drop j, s, 0⟩ 0 = ⟨l.drop (j + 1), s, 0⟩ := by
  obtain ⟨q1, q2, q3⟩ := chk_zero.1 hc
  have hc2 : lChk ⟨l.drop j, s, 0⟩ = 0 := chk_zero.2 ⟨by show (l.drop j).length ≤ 200; simp; have : l.length ≤ 200 := q1; omega, fun p hp => q2 p (List.mem_of_mem_drop hp), q3⟩
  have ht : lThere ⟨l.drop j, s, 0⟩ 0 = true := there_iff.2 ⟨hc2, by omega, by show (0 : Int) < ((l.drop j).length : Int); simp; omega⟩
  unfold lDrop
  rw [ht]
  show (⟨cutAt (l.drop j) 0, s, 0⟩ : Ls) = _
  unfold cutAt
  simp
/-! ### The loops -/
def I5 (l : List Pk) (n b : Int) (x : Ls) (j : Nat) : St := ⟨[(0, .d (.sl (l.map pkD))), (1, .d (.int .u8 n)), (2, .d (.int .u8 b)), (7, .ptr 0 0), (8, .d (.int .i64 j))], [(0, lsC x)]⟩
def O5 : St := ⟨[(6, .d (.bool true))], []⟩
set_option maxRecDepth 100000 in
set_option maxHeartbeats 1000000 in
theorem r5 (l : List Pk) (hl : l.length ≤ 100) (n : Int) (b : Int) (x x' : Ls) (hx : x.l.length < 1073741823) (j : Nat) (p : Pk) (hn : l[j]? = some p) (hp : Sm p) (q : Bool) (hq : lSendB x p = q) (hs : lSend x p = x') : Runs Try.prog 0 (loopN Try.prog 5 0) (St.as (I5 l n b x j) 151) (.normal) (St.as (I5 l n b x' (j+1)) 151) := by
  refine round_wp (p := condP (decide ((↑j : Int) < (↑(List.map pkD l).length : Int))) (((0 : Int) ≤ (↑j : Int)) ∧ (((List.map pkD l)[(↑j : Int).toNat]? = some (D.agg [D.int IntKind.i64 p.p, D.int IntKind.i64 p.t, D.str p.d])) ∧ ((D.bool (decide ((↑p.d.length : Int) > (200 : Int))) = D.bool false) ∧ (((0 : Int) ≤ (↑j : Int)) ∧ (((List.map pkD l)[(↑j : Int).toNat]? = some (D.agg [D.int IntKind.i64 p.p, D.int IntKind.i64 p.t, D.str p.d])) ∧ ((FnOK Try.prog (9 : Nat) [AV.d (D.agg [D.sl (List.map pkD x.l), D.int IntKind.i64 x.s, D.int IntKind.i64 x.c]), AV.d (D.agg [D.int IntKind.i64 p.p, D.int IntKind.i64 p.t, D.str p.d])] [] (AV.tup [AV.d (D.agg [D.sl (List.map pkD x'.l), D.int IntKind.i64 x'.s, D.int IntKind.i64 x'.c]), AV.d (D.bool q)]) []) ∧ ((AV.d (D.sl (List.map pkD l)) = AV.d (D.sl (List.map pkD l))) ∧ ((AV.d (D.int IntKind.u8 n) = AV.d (D.int IntKind.u8 n)) ∧ ((AV.d (D.int IntKind.u8 b) = AV.d (D.int IntKind.u8 b)) ∧ ((AV.ptr (0 : Nat) (0 : Nat) = AV.ptr (0 : Nat) (0 : Nat)) ∧ ((AV.d (D.int IntKind.i64 (IntKind.i64.wrap ((↑j : Int) + (1 : Int)))) = AV.d (D.int IntKind.i64 (↑(j + (1 : Nat)) : Int))) ∧ ((Ob.box [AV.d (D.sl (List.map pkD x'.l)), AV.d (D.int IntKind.i64 x'.s), AV.d (D.int IntKind.i64 x'.c)] = Ob.box [AV.d (D.sl (List.map pkD x'.l)), AV.d (D.int IntKind.i64 x'.s), AV.d (D.int IntKind.i64 x'.c)]) ∧ (True))))))))))))) (False)) (h := {G := [(9, gAns (.tup [.d (lsD x'), .d (.bool q)]))], els := [(32, .el (pkD p)), (42, .el (pkD p))], H := [(7, [(6, .val (.bool false))])]}) (subs := []) (ws := []) (ρ := []) (by kernel_rfl) ?_
  have hj := get_lt hn
  have h1 : p.d.length ≤ 200 := hp
  have k1 := send9 x (by omega) p
  rw [hs, hq] at k1
  rw [inc_i64 (by omega)]
  refine condP_t (by rw [decide_eq_true_eq, List.length_map]; omega) ?_
  repeat' (first | with_reducible exact True.intro | with_reducible refine And.intro ?_ ?_ | with_reducible refine condP_dec (fun _ => ?_) (fun _ => ?_) | with_reducible refine condP_eq (fun _ => ?_) (fun _ => ?_) | with_reducible refine condP_ne (fun _ => ?_) (fun _ => ?_) | with_reducible refine condP_not (condP_dec (fun _ => ?_) (fun _ => ?_)) | with_reducible refine condP_not (condP_eq (fun _ => ?_) (fun _ => ?_)) | with_reducible refine condP_not (condP_intro (fun _ => ?_) (fun _ => ?_)) | with_reducible refine condP_intro (fun _ => ?_) (fun _ => ?_))
  all_goals first | exact k1 | exact el_map hn rfl | rfl | omega | exact dno (by omega) | skip

set_option maxRecDepth 100000 in
set_option maxHeartbeats 1000000 in
theorem e5 (l : List Pk) (hl : l.length ≤ 100) (n : Int) (b : Int) (x : Ls) (j : Nat) (p : Pk) (hn : l[j]? = some p) (hp : ¬Sm p) : Runs Try.prog 0 (loopN Try.prog 5 0) (St.as (I5 l n b x j) 151) (.ret) (St.as (O5) 151) := by
  refine round_wp (p := condP (decide ((↑j : Int) < (↑(List.map pkD l).length : Int))) (((0 : Int) ≤ (↑j : Int)) ∧ (((List.map pkD l)[(↑j : Int).toNat]? = some (D.agg [D.int IntKind.i64 p.p, D.int IntKind.i64 p.t, D.str p.d])) ∧ ((D.bool (decide ((↑p.d.length : Int) > (200 : Int))) = D.bool true) ∧ ((FnOK Try.prog (7 : Nat) [] [] (AV.d (D.bool true)) []) ∧ ((AV.d (D.bool true) = AV.d (D.bool true)) ∧ (True)))))) (False)) (h := {G := [(7, gYes)], els := [(32, .el (pkD p)), (42, .el (pkD p))], H := [(7, [(6, .val (.bool true))])]}) (subs := []) (ws := []) (ρ := []) (by kernel_rfl) ?_
  have hj := get_lt hn
  have h1 : ¬p.d.length ≤ 200 := hp
  refine condP_t (by rw [decide_eq_true_eq, List.length_map]; omega) ?_
  repeat' (first | with_reducible exact True.intro | with_reducible refine And.intro ?_ ?_ | with_reducible refine condP_dec (fun _ => ?_) (fun _ => ?_) | with_reducible refine condP_eq (fun _ => ?_) (fun _ => ?_) | with_reducible refine condP_ne (fun _ => ?_) (fun _ => ?_) | with_reducible refine condP_not (condP_dec (fun _ => ?_) (fun _ => ?_)) | with_reducible refine condP_not (condP_eq (fun _ => ?_) (fun _ => ?_)) | with_reducible refine condP_not (condP_intro (fun _ => ?_) (fun _ => ?_)) | with_reducible refine condP_intro (fun _ => ?_) (fun _ => ?_))
  all_goals first | exact aw7 | exact el_map hn rfl | rfl | omega | exact dyes (by omega) | skip

set_option maxRecDepth 100000 in
set_option maxHeartbeats 1000000 in
theorem q5 (l : List Pk) (n : Int) (b : Int) (x : Ls) : Runs Try.prog 0 (loopN Try.prog 5 0) (St.as (I5 l n b x l.length) 151) (.exit 0) (St.as (I5 l n b x l.length) 151) := by
  refine round_wp (p := condP (decide ((↑l.length : Int) < (↑(List.map pkD l).length : Int))) (False) ((AV.d (D.sl (List.map pkD l)) = AV.d (D.sl (List.map pkD l))) ∧ ((AV.d (D.int IntKind.u8 n) = AV.d (D.int IntKind.u8 n)) ∧ ((AV.d (D.int IntKind.u8 b) = AV.d (D.int IntKind.u8 b)) ∧ ((AV.ptr (0 : Nat) (0 : Nat) = AV.ptr (0 : Nat) (0 : Nat)) ∧ ((AV.d (D.int IntKind.i64 (↑l.length : Int)) = AV.d (D.int IntKind.i64 (↑l.length : Int))) ∧ ((Ob.box [AV.d (D.sl (List.map pkD x.l)), AV.d (D.int IntKind.i64 x.s), AV.d (D.int IntKind.i64 x.c)] = Ob.box [AV.d (D.sl (List.map pkD x.l)), AV.d (D.int IntKind.i64 x.s), AV.d (D.int IntKind.i64 x.c)]) ∧ (True)))))))) (h := {}) (subs := []) (ws := []) (ρ := []) (by kernel_rfl) ?_
  repeat' (first | with_reducible exact True.intro | with_reducible refine And.intro ?_ ?_ | with_reducible refine condP_dec (fun _ => ?_) (fun _ => ?_) | with_reducible refine condP_eq (fun _ => ?_) (fun _ => ?_) | with_reducible refine condP_ne (fun _ => ?_) (fun _ => ?_) | with_reducible refine condP_not (condP_dec (fun _ => ?_) (fun _ => ?_)) | with_reducible refine condP_not (condP_eq (fun _ => ?_) (fun _ => ?_)) | with_reducible refine condP_not (condP_intro (fun _ => ?_) (fun _ => ?_)) | with_reducible refine condP_intro (fun _ => ?_) (fun _ => ?_))
  all_goals (try simp only [List.length_map, AV.d.injEq, D.int.injEq, D.bool.injEq, D.str.injEq, D.sl.injEq, true_and, and_true, decide_eq_true_eq, decide_eq_false_iff_not, decide_eq_decide])
  all_goals (try simp only [List.length_map] at *)
  all_goals first | rfl | omega

def J5 (x B : Ls) (P : Pk) (k : Nat) (j : Nat) : St := ⟨[(7, .ptr 0 0), (9, .d (.int .i64 k)), (12, .ptr 1 0), (15, .ptr 2 0), (16, .d (.bool true)), (18, .ptr 3 0), (19, .d (.bool true)), (20, .ptr 4 0), (21, .d (.int .i64 j))], [(0, lsC x), (1, lsC B), (2, .box [.d (.int .i64 P.p), .d (.int .i64 P.t), .d (.str P.d)]), (3, .box [.d (.int .i64 P.p), .d (.int .i64 P.t), .d (.str P.d)]), (4, lsC ⟨x.l.drop j, x.s, 0⟩)]⟩
set_option maxRecDepth 100000 in
set_option maxHeartbeats 1000000 in
theorem s5 (x B : Ls) (P : Pk) (k : Nat) (hc : lChk x = 0) (h0 : x.c = 0) (j : Nat) (hj : j < x.l.length) (hd : lDrop ⟨x.l.drop j, x.s, 0⟩ 0 = ⟨x.l.drop (j + 1), x.s, 0⟩) (q : Bool) (hq : lThere ⟨x.l.drop j, x.s, 0⟩ 0 = q) : Runs Try.prog 0 (loopN Try.prog 5 1) (St.as (J5 x B P k j) 151) (.normal) (St.as (J5 x B P k (j+1)) 151) := by
  refine round_wp (p := condP (decide ((↑j : Int) < (↑(List.map pkD x.l).length : Int))) ((FnOK Try.prog (13 : Nat) [AV.d (D.agg [D.sl (List.map pkD (Ls.mk (List.drop j x.l) x.s (0 : Int)).l), D.int IntKind.i64 (Ls.mk (List.drop j x.l) x.s (0 : Int)).s, D.int IntKind.i64 (Ls.mk (List.drop j x.l) x.s (0 : Int)).c]), AV.d (D.int IntKind.i64 (0 : Int))] [] (AV.tup [AV.d (D.agg [D.sl (List.map pkD (Ls.mk (List.drop (j + (1 : Nat)) x.l) x.s (0 : Int)).l), D.int IntKind.i64 (Ls.mk (List.drop (j + (1 : Nat)) x.l) x.s (0 : Int)).s, D.int IntKind.i64 (Ls.mk (List.drop (j + (1 : Nat)) x.l) x.s (0 : Int)).c]), AV.d (D.bool q)]) []) ∧ ((AV.ptr (0 : Nat) (0 : Nat) = AV.ptr (0 : Nat) (0 : Nat)) ∧ ((AV.d (D.int IntKind.i64 (↑k : Int)) = AV.d (D.int IntKind.i64 (↑k : Int))) ∧ ((AV.ptr (1 : Nat) (0 : Nat) = AV.ptr (1 : Nat) (0 : Nat)) ∧ ((AV.ptr (2 : Nat) (0 : Nat) = AV.ptr (2 : Nat) (0 : Nat)) ∧ ((AV.d (D.bool true) = AV.d (D.bool true)) ∧ ((AV.ptr (3 : Nat) (0 : Nat) = AV.ptr (3 : Nat) (0 : Nat)) ∧ ((AV.d (D.bool true) = AV.d (D.bool true)) ∧ ((AV.ptr (4 : Nat) (0 : Nat) = AV.ptr (4 : Nat) (0 : Nat)) ∧ ((AV.d (D.int IntKind.i64 (IntKind.i64.wrap ((↑j : Int) + (1 : Int)))) = AV.d (D.int IntKind.i64 (↑(j + (1 : Nat)) : Int))) ∧ ((Ob.box [AV.d (D.sl (List.map pkD x.l)), AV.d (D.int IntKind.i64 x.s), AV.d (D.int IntKind.i64 x.c)] = Ob.box [AV.d (D.sl (List.map pkD x.l)), AV.d (D.int IntKind.i64 x.s), AV.d (D.int IntKind.i64 x.c)]) ∧ ((Ob.box [AV.d (D.sl (List.map pkD B.l)), AV.d (D.int IntKind.i64 B.s), AV.d (D.int IntKind.i64 B.c)] = Ob.box [AV.d (D.sl (List.map pkD B.l)), AV.d (D.int IntKind.i64 B.s), AV.d (D.int IntKind.i64 B.c)]) ∧ ((Ob.box [AV.d (D.int IntKind.i64 P.p), AV.d (D.int IntKind.i64 P.t), AV.d (D.str P.d)] = Ob.box [AV.d (D.int IntKind.i64 P.p), AV.d (D.int IntKind.i64 P.t), AV.d (D.str P.d)]) ∧ ((Ob.box [AV.d (D.int IntKind.i64 P.p), AV.d (D.int IntKind.i64 P.t), AV.d (D.str P.d)] = Ob.box [AV.d (D.int IntKind.i64 P.p), AV.d (D.int IntKind.i64 P.t), AV.d (D.str P.d)]) ∧ ((Ob.box [AV.d (D.sl (List.map pkD (Ls.mk (List.drop (j + (1 : Nat)) x.l) x.s (0 : Int)).l)), AV.d (D.int IntKind.i64 (Ls.mk (List.drop (j + (1 : Nat)) x.l) x.s (0 : Int)).s), AV.d (D.int IntKind.i64 (Ls.mk (List.drop (j + (1 : Nat)) x.l) x.s (0 : Int)).c)] = Ob.box [AV.d (D.sl (List.map pkD (Ls.mk (List.drop (j + (1 : Nat)) x.l) x.s (0 : Int)).l)), AV.d (D.int IntKind.i64 (Ls.mk (List.drop (j + (1 : Nat)) x.l) x.s (0 : Int)).s), AV.d (D.int IntKind.i64 (Ls.mk (List.drop (j + (1 : Nat)) x.l) x.s (0 : Int)).c)]) ∧ (True)))))))))))))))) (False)) (h := {G := [(13, gAns (.tup [.d (lsD ⟨x.l.drop (j + 1), x.s, 0⟩), .d (.bool q)]))]}) (subs := []) (ws := []) (ρ := []) (by kernel_rfl) ?_
  obtain ⟨q1, -⟩ := chk_zero.1 hc
  have k1 := drop13 ⟨x.l.drop j, x.s, 0⟩ (by show (x.l.drop j).length < _; simp; omega) 0
  rw [hd, hq] at k1
  rw [inc_i64 (by omega)]
  refine condP_t (by rw [decide_eq_true_eq, List.length_map]; omega) ?_
  repeat' (first | with_reducible exact True.intro | with_reducible refine And.intro ?_ ?_ | with_reducible refine condP_dec (fun _ => ?_) (fun _ => ?_) | with_reducible refine condP_eq (fun _ => ?_) (fun _ => ?_) | with_reducible refine condP_ne (fun _ => ?_) (fun _ => ?_) | with_reducible refine condP_not (condP_dec (fun _ => ?_) (fun _ => ?_)) | with_reducible refine condP_not (condP_eq (fun _ => ?_) (fun _ => ?_)) | with_reducible refine condP_not (condP_intro (fun _ => ?_) (fun _ => ?_)) | with_reducible refine condP_intro (fun _ => ?_) (fun _ => ?_))
  all_goals first | exact k1 | rfl | skip

set_option maxRecDepth 100000 in
set_option maxHeartbeats 1000000 in
theorem t5 (x B : Ls) (P : Pk) (k : Nat) : Runs Try.prog 0 (loopN Try.prog 5 1) (St.as (J5 x B P k x.l.length) 151) (.exit 2) (St.as (J5 x B P k x.l.length) 151) := by
  refine round_wp (p := condP (decide ((↑x.l.length : Int) < (↑(List.map pkD x.l).length : Int))) (False) ((AV.ptr (0 : Nat) (0 : Nat) = AV.ptr (0 : Nat) (0 : Nat)) ∧ ((AV.d (D.int IntKind.i64 (↑k : Int)) = AV.d (D.int IntKind.i64 (↑k : Int))) ∧ ((AV.ptr (1 : Nat) (0 : Nat) = AV.ptr (1 : Nat) (0 : Nat)) ∧ ((AV.ptr (2 : Nat) (0 : Nat) = AV.ptr (2 : Nat) (0 : Nat)) ∧ ((AV.d (D.bool true) = AV.d (D.bool true)) ∧ ((AV.ptr (3 : Nat) (0 : Nat) = AV.ptr (3 : Nat) (0 : Nat)) ∧ ((AV.d (D.bool true) = AV.d (D.bool true)) ∧ ((AV.ptr (4 : Nat) (0 : Nat) = AV.ptr (4 : Nat) (0 : Nat)) ∧ ((AV.d (D.int IntKind.i64 (↑x.l.length : Int)) = AV.d (D.int IntKind.i64 (↑x.l.length : Int))) ∧ ((Ob.box [AV.d (D.sl (List.map pkD x.l)), AV.d (D.int IntKind.i64 x.s), AV.d (D.int IntKind.i64 x.c)] = Ob.box [AV.d (D.sl (List.map pkD x.l)), AV.d (D.int IntKind.i64 x.s), AV.d (D.int IntKind.i64 x.c)]) ∧ ((Ob.box [AV.d (D.sl (List.map pkD B.l)), AV.d (D.int IntKind.i64 B.s), AV.d (D.int IntKind.i64 B.c)] = Ob.box [AV.d (D.sl (List.map pkD B.l)), AV.d (D.int IntKind.i64 B.s), AV.d (D.int IntKind.i64 B.c)]) ∧ ((Ob.box [AV.d (D.int IntKind.i64 P.p), AV.d (D.int IntKind.i64 P.t), AV.d (D.str P.d)] = Ob.box [AV.d (D.int IntKind.i64 P.p), AV.d (D.int IntKind.i64 P.t), AV.d (D.str P.d)]) ∧ ((Ob.box [AV.d (D.int IntKind.i64 P.p), AV.d (D.int IntKind.i64 P.t), AV.d (D.str P.d)] = Ob.box [AV.d (D.int IntKind.i64 P.p), AV.d (D.int IntKind.i64 P.t), AV.d (D.str P.d)]) ∧ ((Ob.box [AV.d (D.sl (List.map pkD (Ls.mk (List.drop x.l.length x.l) x.s (0 : Int)).l)), AV.d (D.int IntKind.i64 (Ls.mk (List.drop x.l.length x.l) x.s (0 : Int)).s), AV.d (D.int IntKind.i64 (Ls.mk (List.drop x.l.length x.l) x.s (0 : Int)).c)] = Ob.box [AV.d (D.sl (List.map pkD (Ls.mk (List.drop x.l.length x.l) x.s (0 : Int)).l)), AV.d (D.int IntKind.i64 (Ls.mk (List.drop x.l.length x.l) x.s (0 : Int)).s), AV.d (D.int IntKind.i64 (Ls.mk (List.drop x.l.length x.l) x.s (0 : Int)).c)]) ∧ (True)))))))))))))))) (h := {}) (subs := []) (ws := []) (ρ := []) (by kernel_rfl) ?_
  repeat' (first | with_reducible exact True.intro | with_reducible refine And.intro ?_ ?_ | with_reducible refine condP_dec (fun _ => ?_) (fun _ => ?_) | with_reducible refine condP_eq (fun _ => ?_) (fun _ => ?_) | with_reducible refine condP_ne (fun _ => ?_) (fun _ => ?_) | with_reducible refine condP_not (condP_dec (fun _ => ?_) (fun _ => ?_)) | with_reducible refine condP_not (condP_eq (fun _ => ?_) (fun _ => ?_)) | with_reducible refine condP_not (condP_intro (fun _ => ?_) (fun _ => ?_)) | with_reducible refine condP_intro (fun _ => ?_) (fun _ => ?_))
  all_goals (try simp only [List.length_map, AV.d.injEq, D.int.injEq, D.bool.injEq, D.str.injEq, D.sl.injEq, true_and, and_true, decide_eq_true_eq, decide_eq_false_iff_not, decide_eq_decide])
  all_goals (try simp only [List.length_map] at *)
  all_goals first | rfl | omega

theorem l5 (l : List Pk) (hl : l.length ≤ 100) (hp : ∀ p ∈ l, Sm p) (n : Int) (b : Int) : Loops Try.prog 0 (loopN Try.prog 5 0) ((I5 l n b ls0 0).as 151) (.exit 0) ((I5 l n b (lRun l) l.length).as 151) := by
  have e := loops_n (P := Try.prog) (k := 0) (c := loopN Try.prog 5 0) (I := fun j => (I5 l n b (lRun (l.take j)) j).as 151) (e := .exit 0) (by simp) l.length 0 (by omega) (fun j _ hj => by
    have h1 := run_len (l.take j) ls0
    have h2 : (l.take j).length ≤ 100 := by simp; omega
    have h3 : ls0.l.length = 0 := rfl
    have h4 : (lRun (l.take j)).l.length ≤ 100 := by unfold lRun; omega
    exact r5 l hl n b _ _ (by omega) j l[j] (get_of hj) (hp _ (List.getElem_mem hj)) _ rfl (lRun_succ (get_of hj))) (q5 l n b _)
  rw [List.take_length] at e
  exact e
theorem m5 (l : List Pk) (hl : l.length ≤ 100) (n : Int) (b : Int) (m : Nat) (p : Pk) (hm : l[m]? = some p) (hp : ¬Sm p) (hb : ∀ (j : Nat) (y : Pk), j < m → l[j]? = some y → Sm y) : Loops Try.prog 0 (loopN Try.prog 5 0) ((I5 l n b ls0 0).as 151) .ret (O5.as 151) := by
  have hml := get_lt hm
  refine loops_n (P := Try.prog) (k := 0) (c := loopN Try.prog 5 0) (I := fun j => (I5 l n b (lRun (l.take j)) j).as 151) (e := .ret) (by simp) m 0 (by omega) (fun j _ hj => by
    have h1 := run_len (l.take j) ls0
    have h2 : (l.take j).length ≤ 100 := by simp; omega
    have h3 : ls0.l.length = 0 := rfl
    have h4 : (lRun (l.take j)).l.length ≤ 100 := by unfold lRun; omega
    exact r5 l hl n b _ _ (by omega) j (l[j]'(by omega)) (get_of _) (hb j _ hj (get_of _)) _ rfl (lRun_succ (get_of _))) (e5 l hl n b _ m p hm hp)
theorem o5 (x B : Ls) (P : Pk) (k : Nat) (hc : lChk x = 0) (h0 : x.c = 0) : Loops Try.prog 0 (loopN Try.prog 5 1) ((J5 x B P k 0).as 151) (.exit 2) ((J5 x B P k x.l.length).as 151) := by
  obtain ⟨l, s, c⟩ := x
  obtain rfl : c = 0 := h0
  exact loops_n (P := Try.prog) (k := 0) (c := loopN Try.prog 5 1) (I := fun j => (J5 ⟨l, s, 0⟩ B P k j).as 151) (e := .exit 2) (by simp) l.length 0 (by omega) (fun j _ hj => s5 ⟨l, s, 0⟩ B P k hc rfl j hj (drop_step hc hj) _ rfl) (t5 ⟨l, s, 0⟩ B P k)
set_option maxRecDepth 100000 in
set_option maxHeartbeats 1000000 in
theorem two5l (l : List Pk) (hl : ¬l.length ≤ 100) (n : Int) (b : Int) : FnOK Try.prog 5 ([.d (.sl (l.map pkD)), .d (.int .u8 n), .d (.int .u8 b)]) ([]) (.d (.bool true)) ([]) := by
  refine fnOK_wp (p := (D.bool (decide ((↑(List.map pkD l).length : Int) > (100 : Int))) = D.bool true) ∧ ((FnOK Try.prog (7 : Nat) [] [] (AV.d (D.bool true)) []) ∧ ((AV.d (D.bool true) = AV.d (D.bool true)) ∧ (True)))) (h := {G := [(7, gYes)], H := [(1, [(2, .val (.bool true))])]}) (subs := []) (ws := []) (ρ := []) (by kernel_rfl) ?_
  simp only [List.length_map]
  repeat' (first | with_reducible exact True.intro | with_reducible refine And.intro ?_ ?_ | with_reducible refine condP_dec (fun _ => ?_) (fun _ => ?_) | with_reducible refine condP_eq (fun _ => ?_) (fun _ => ?_) | with_reducible refine condP_ne (fun _ => ?_) (fun _ => ?_) | with_reducible refine condP_not (condP_dec (fun _ => ?_) (fun _ => ?_)) | with_reducible refine condP_not (condP_eq (fun _ => ?_) (fun _ => ?_)) | with_reducible refine condP_not (condP_intro (fun _ => ?_) (fun _ => ?_)) | with_reducible refine condP_intro (fun _ => ?_) (fun _ => ?_))
  all_goals first | exact aw7 | rfl | exact dyes (by omega) | skip

set_option maxRecDepth 100000 in
set_option maxHeartbeats 1000000 in
theorem two5m (l : List Pk) (hl : l.length ≤ 100) (n : Int) (b : Int) (hL : Loops Try.prog 0 (loopN Try.prog 5 0) ((I5 l n b ls0 0).as 151) .ret (O5.as 151)) : FnOK Try.prog 5 ([.d (.sl (l.map pkD)), .d (.int .u8 n), .d (.int .u8 b)]) ([]) (.d (.bool true)) ([]) := by
  refine fnOK_wp (p := (D.bool (decide ((↑(List.map pkD l).length : Int) > (100 : Int))) = D.bool false) ∧ ((AV.d (D.sl (List.map pkD l)) = AV.d (D.sl (List.map pkD l))) ∧ ((AV.d (D.int IntKind.u8 n) = AV.d (D.int IntKind.u8 n)) ∧ ((AV.d (D.int IntKind.u8 b) = AV.d (D.int IntKind.u8 b)) ∧ ((AV.ptr (1056 : Nat) (0 : Nat) = AV.ptr (1056 : Nat) (0 : Nat)) ∧ ((AV.d (D.int IntKind.i64 (0 : Int)) = AV.d (D.int IntKind.i64 (0 : Int))) ∧ ((Ob.box [AV.d (D.sl []), AV.d (D.int IntKind.i64 (0 : Int)), AV.d (D.int IntKind.i64 (0 : Int))] = Ob.box [AV.d (D.sl []), AV.d (D.int IntKind.i64 (0 : Int)), AV.d (D.int IntKind.i64 (0 : Int))]) ∧ ((LoopsS Try.prog (0 : Nat) (loopN Try.prog (5 : Nat) (0 : Nat)) (I5 l n b ls0 (0 : Nat)) Exit.ret O5 (151 : Nat)) ∧ ((AV.d (D.bool true) = AV.d (D.bool true)) ∧ (True)))))))))) (h := {G := [(7, gYes)], H := [(1, [(2, .val (.bool false))])], W := [(4, [.nilcell 1056 0 500 3, .freeze 500])]}) (subs := [⟨[], [], I5 l n b ls0 0, .ret, O5⟩]) (ws := []) (ρ := []) (by kernel_rfl) ?_
  simp only [List.length_map]
  repeat' (first | with_reducible exact True.intro | with_reducible refine And.intro ?_ ?_ | with_reducible refine condP_dec (fun _ => ?_) (fun _ => ?_) | with_reducible refine condP_eq (fun _ => ?_) (fun _ => ?_) | with_reducible refine condP_ne (fun _ => ?_) (fun _ => ?_) | with_reducible refine condP_not (condP_dec (fun _ => ?_) (fun _ => ?_)) | with_reducible refine condP_not (condP_eq (fun _ => ?_) (fun _ => ?_)) | with_reducible refine condP_not (condP_intro (fun _ => ?_) (fun _ => ?_)) | with_reducible refine condP_intro (fun _ => ?_) (fun _ => ?_))
  all_goals first | exact aw7 | exact hL | rfl | exact dno (by omega) | skip

set_option maxRecDepth 100000 in
set_option maxHeartbeats 1000000 in
theorem two5z (l : List Pk) (hl : l.length ≤ 100) (n : Int) (b : Int) (x : Ls) (hx : x.l.length = 0) (hL : Loops Try.prog 0 (loopN Try.prog 5 0) ((I5 l n b ls0 0).as 151) (.exit 0) ((I5 l n b x l.length).as 151)) : FnOK Try.prog 5 ([.d (.sl (l.map pkD)), .d (.int .u8 n), .d (.int .u8 b)]) ([]) (.d (.bool true)) ([]) := by
  refine fnOK_wp (p := (D.bool (decide ((↑(List.map pkD l).length : Int) > (100 : Int))) = D.bool false) ∧ ((AV.d (D.sl (List.map pkD l)) = AV.d (D.sl (List.map pkD l))) ∧ ((AV.d (D.int IntKind.u8 n) = AV.d (D.int IntKind.u8 n)) ∧ ((AV.d (D.int IntKind.u8 b) = AV.d (D.int IntKind.u8 b)) ∧ ((AV.ptr (1056 : Nat) (0 : Nat) = AV.ptr (1056 : Nat) (0 : Nat)) ∧ ((AV.d (D.int IntKind.i64 (0 : Int)) = AV.d (D.int IntKind.i64 (0 : Int))) ∧ ((Ob.box [AV.d (D.sl []), AV.d (D.int IntKind.i64 (0 : Int)), AV.d (D.int IntKind.i64 (0 : Int))] = Ob.box [AV.d (D.sl []), AV.d (D.int IntKind.i64 (0 : Int)), AV.d (D.int IntKind.i64 (0 : Int))]) ∧ ((LoopsS Try.prog (0 : Nat) (loopN Try.prog (5 : Nat) (0 : Nat)) (I5 l n b ls0 (0 : Nat)) (Exit.exit (0 : Nat)) (I5 l n b x l.length) (151 : Nat)) ∧ ((D.bool ((↑(List.map pkD x.l).length : Int) == (0 : Int)) = D.bool true) ∧ ((FnOK Try.prog (7 : Nat) [] [] (AV.d (D.bool true)) []) ∧ ((AV.d (D.bool true) = AV.d (D.bool true)) ∧ (True)))))))))))) (h := {G := [(7, gYes)], H := [(1, [(2, .val (.bool false))]), (10, [(3, .val (.bool true))])], W := [(4, [.nilcell 1056 0 500 3, .freeze 500])]}) (subs := [⟨[], [], I5 l n b ls0 0, .exit 0, I5 l n b x l.length⟩]) (ws := []) (ρ := []) (by kernel_rfl) ?_
  simp only [List.length_map]
  repeat' (first | with_reducible exact True.intro | with_reducible refine And.intro ?_ ?_ | with_reducible refine condP_dec (fun _ => ?_) (fun _ => ?_) | with_reducible refine condP_eq (fun _ => ?_) (fun _ => ?_) | with_reducible refine condP_ne (fun _ => ?_) (fun _ => ?_) | with_reducible refine condP_not (condP_dec (fun _ => ?_) (fun _ => ?_)) | with_reducible refine condP_not (condP_eq (fun _ => ?_) (fun _ => ?_)) | with_reducible refine condP_not (condP_intro (fun _ => ?_) (fun _ => ?_)) | with_reducible refine condP_intro (fun _ => ?_) (fun _ => ?_))
  all_goals first | exact aw7 | exact hL | rfl | exact dno (by omega) | (refine congrArg D.bool ?_; simp [hx]; done) | skip

set_option maxRecDepth 100000 in
set_option maxHeartbeats 1000000 in
theorem two5y (l : List Pk) (hl : l.length ≤ 100) (n : Int) (b : Int) (b0 : 0 ≤ b) (b1 : b < 256) (x : Ls) (hi : Inv x) (hne : x.l.length ≠ 0) (hL : Loops Try.prog 0 (loopN Try.prog 5 0) ((I5 l n b ls0 0).as 151) (.exit 0) ((I5 l n b x l.length).as 151)) (k : Nat) (hk : IntKind.i64.wrap n = n) (hkn : n.tmod (x.l.length : Int) = k) (P : Pk) (hP : x.l[k]? = some P) (A B C E : Ls) (fa fb : Bool) (hA : lFlip x k b b = A) (hfa : lFlipB x k b b = fa) (hfb : lFlipB A k b b = fb) (hB : lFlip A k b b = x) (hsm : ∀ y ∈ A.l, Sm y) (hAl : A.l.length = x.l.length) (hT : lTakeP x k = P) (hC : lTake x k true = C) (ht : lThere x k = true) (hT2 : lTakeP C k = P) (ht2 : lThere C k = true) (hE : lTake C k false = E) (hCl : C.l.length = x.l.length) (hO : Loops Try.prog 0 (loopN Try.prog 5 1) ((J5 x x P k 0).as 151) (.exit 2) ((J5 x x P k x.l.length).as 151)) : FnOK Try.prog 5 ([.d (.sl (l.map pkD)), .d (.int .u8 n), .d (.int .u8 b)]) ([]) (.d (.bool true)) ([]) := by
  refine fnOK_wp (p := (D.bool (decide ((↑(List.map pkD l).length : Int) > (100 : Int))) = D.bool false) ∧ ((AV.d (D.sl (List.map pkD l)) = AV.d (D.sl (List.map pkD l))) ∧ ((AV.d (D.int IntKind.u8 n) = AV.d (D.int IntKind.u8 n)) ∧ ((AV.d (D.int IntKind.u8 b) = AV.d (D.int IntKind.u8 b)) ∧ ((AV.ptr (1056 : Nat) (0 : Nat) = AV.ptr (1056 : Nat) (0 : Nat)) ∧ ((AV.d (D.int IntKind.i64 (0 : Int)) = AV.d (D.int IntKind.i64 (0 : Int))) ∧ ((Ob.box [AV.d (D.sl []), AV.d (D.int IntKind.i64 (0 : Int)), AV.d (D.int IntKind.i64 (0 : Int))] = Ob.box [AV.d (D.sl []), AV.d (D.int IntKind.i64 (0 : Int)), AV.d (D.int IntKind.i64 (0 : Int))]) ∧ ((LoopsS Try.prog (0 : Nat) (loopN Try.prog (5 : Nat) (0 : Nat)) (I5 l n b ls0 (0 : Nat)) (Exit.exit (0 : Nat)) (I5 l n b x l.length) (151 : Nat)) ∧ ((D.bool ((↑(List.map pkD x.l).length : Int) == (0 : Int)) = D.bool false) ∧ ((D.int IntKind.i64 ((IntKind.i64.wrap n).tmod (↑(List.map pkD x.l).length : Int)) = D.int IntKind.i64 (↑k : Int)) ∧ (((↑(List.map pkD x.l).length : Int) ≠ (0 : Int)) ∧ ((FnOK Try.prog (15 : Nat) [AV.d (D.agg [D.sl (List.map pkD x.l), D.int IntKind.i64 x.s, D.int IntKind.i64 x.c]), AV.d (D.int IntKind.i64 (↑k : Int)), AV.d (D.int IntKind.i64 (IntKind.i64.wrap b)), AV.d (D.int IntKind.i64 (IntKind.i64.wrap b))] [] (AV.tup [AV.d (D.agg [D.sl (List.map pkD A.l), D.int IntKind.i64 A.s, D.int IntKind.i64 A.c]), AV.d (D.bool fa)]) []) ∧ ((FnOK Try.prog (15 : Nat) [AV.d (D.agg [D.sl (List.map pkD A.l), D.int IntKind.i64 A.s, D.int IntKind.i64 A.c]), AV.d (D.int IntKind.i64 (↑k : Int)), AV.d (D.int IntKind.i64 (IntKind.i64.wrap b)), AV.d (D.int IntKind.i64 (IntKind.i64.wrap b))] [] (AV.tup [AV.d (D.agg [D.sl (List.map pkD x.l), D.int IntKind.i64 x.s, D.int IntKind.i64 x.c]), AV.d (D.bool fb)]) []) ∧ ((FnOK Try.prog (11 : Nat) [AV.d (D.agg [D.sl (List.map pkD x.l), D.int IntKind.i64 x.s, D.int IntKind.i64 x.c]), AV.d (D.int IntKind.i64 (↑k : Int)), AV.d (D.bool true)] [] (AV.tup [AV.d (D.agg [D.sl (List.map pkD C.l), D.int IntKind.i64 C.s, D.int IntKind.i64 C.c]), AV.d (D.agg [D.int IntKind.i64 P.p, D.int IntKind.i64 P.t, D.str P.d]), AV.d (D.bool true)]) []) ∧ ((FnOK Try.prog (11 : Nat) [AV.d (D.agg [D.sl (List.map pkD C.l), D.int IntKind.i64 C.s, D.int IntKind.i64 C.c]), AV.d (D.int IntKind.i64 (↑k : Int)), AV.d (D.bool false)] [] (AV.tup [AV.d (D.agg [D.sl (List.map pkD E.l), D.int IntKind.i64 E.s, D.int IntKind.i64 E.c]), AV.d (D.agg [D.int IntKind.i64 P.p, D.int IntKind.i64 P.t, D.str P.d]), AV.d (D.bool true)]) []) ∧ ((AV.ptr (0 : Nat) (0 : Nat) = AV.ptr (0 : Nat) (0 : Nat)) ∧ ((AV.d (D.int IntKind.i64 (↑k : Int)) = AV.d (D.int IntKind.i64 (↑k : Int))) ∧ ((AV.ptr (1096 : Nat) (0 : Nat) = AV.ptr (1096 : Nat) (0 : Nat)) ∧ ((AV.ptr (1120 : Nat) (0 : Nat) = AV.ptr (1120 : Nat) (0 : Nat)) ∧ ((AV.d (D.bool true) = AV.d (D.bool true)) ∧ ((AV.ptr (1144 : Nat) (0 : Nat) = AV.ptr (1144 : Nat) (0 : Nat)) ∧ ((AV.d (D.bool true) = AV.d (D.bool true)) ∧ ((AV.ptr (1160 : Nat) (0 : Nat) = AV.ptr (1160 : Nat) (0 : Nat)) ∧ ((AV.d (D.int IntKind.i64 (0 : Int)) = AV.d (D.int IntKind.i64 (0 : Int))) ∧ ((Ob.box [AV.d (D.sl (List.map pkD x.l)), AV.d (D.int IntKind.i64 x.s), AV.d (D.int IntKind.i64 x.c)] = Ob.box [AV.d (D.sl (List.map pkD x.l)), AV.d (D.int IntKind.i64 x.s), AV.d (D.int IntKind.i64 x.c)]) ∧ ((Ob.box [AV.d (D.sl (List.map pkD x.l)), AV.d (D.int IntKind.i64 x.s), AV.d (D.int IntKind.i64 x.c)] = Ob.box [AV.d (D.sl (List.map pkD x.l)), AV.d (D.int IntKind.i64 x.s), AV.d (D.int IntKind.i64 x.c)]) ∧ ((Ob.box [AV.d (D.int IntKind.i64 P.p), AV.d (D.int IntKind.i64 P.t), AV.d (D.str P.d)] = Ob.box [AV.d (D.int IntKind.i64 P.p), AV.d (D.int IntKind.i64 P.t), AV.d (D.str P.d)]) ∧ ((Ob.box [AV.d (D.int IntKind.i64 P.p), AV.d (D.int IntKind.i64 P.t), AV.d (D.str P.d)] = Ob.box [AV.d (D.int IntKind.i64 P.p), AV.d (D.int IntKind.i64 P.t), AV.d (D.str P.d)]) ∧ ((Ob.box [AV.d (D.sl (List.map pkD x.l)), AV.d (D.int IntKind.i64 x.s), AV.d (D.int IntKind.i64 x.c)] = Ob.box [AV.d (D.sl (List.map pkD (Ls.mk (List.drop (0 : Nat) x.l) x.s (0 : Int)).l)), AV.d (D.int IntKind.i64 (Ls.mk (List.drop (0 : Nat) x.l) x.s (0 : Int)).s), AV.d (D.int IntKind.i64 (Ls.mk (List.drop (0 : Nat) x.l) x.s (0 : Int)).c)]) ∧ ((LoopsS Try.prog (0 : Nat) (loopN Try.prog (5 : Nat) (1 : Nat)) (J5 x x P k (0 : Nat)) (Exit.exit (2 : Nat)) (J5 x x P k x.l.length) (151 : Nat)) ∧ ((FnOK Try.prog (27 : Nat) [AV.d (D.agg [D.sl (List.map pkD x.l), D.int IntKind.i64 x.s, D.int IntKind.i64 x.c]), AV.d (D.agg [D.sl (List.map pkD x.l), D.int IntKind.i64 x.s, D.int IntKind.i64 x.c])] [] (AV.d (D.bool true)) []) ∧ ((D.bool true = D.bool true) ∧ ((D.bool true = D.bool true) ∧ ((D.bool true = D.bool true) ∧ ((D.bool (P.p == P.p && (P.t == P.t && (P.d == P.d && true))) = D.bool true) ∧ ((D.bool true = D.bool true) ∧ (((0 : Int) ≤ (↑k : Int)) ∧ (((List.map pkD x.l)[(↑k : Int).toNat]? = some (D.agg [D.int IntKind.i64 P.p, D.int IntKind.i64 P.t, D.str P.d])) ∧ ((D.bool (P.p == P.p && (P.t == P.t && (P.d == P.d && true))) = D.bool true) ∧ ((D.bool true = D.bool true) ∧ ((D.bool ((↑(List.map pkD (Ls.mk (List.drop x.l.length x.l) x.s (0 : Int)).l).length : Int) == (0 : Int)) = D.bool true) ∧ ((D.bool true = D.bool true) ∧ ((D.bool true = D.bool true) ∧ ((D.bool ((Ls.mk (List.drop x.l.length x.l) x.s (0 : Int)).s == x.s) = D.bool true) ∧ ((D.bool true = D.bool true) ∧ ((FnOK Try.prog (7 : Nat) [] [] (AV.d (D.bool true)) []) ∧ ((AV.d (D.bool true) = AV.d (D.bool true)) ∧ (True)))))))))))))))))))))))))))))))))))))))))))))))) (h := {chain := true, free := [22], G := [(7, gYes), (27, gYes)], H := [(1, [(2, .val (.bool false))]), (10, [(3, .val (.bool false))]), (12, [(5, .val (.int .i64 k))]), (13, [(6, .call [] (.tup [.d (lsD A), .d (.bool fa)]) [])]), (14, [(6, .call [] (.tup [.d (lsD x), .d (.bool fb)]) [])]), (15, [(2, .call [] (.tup [.d (lsD C), .d (pkD P), .d (.bool true)]) [])]), (16, [(2, .call [] (.tup [.d (lsD E), .d (pkD P), .d (.bool true)]) [])]), (22, [(12, .val (.bool true)), (21, .val (.bool true)), (27, .val (.bool true)), (39, .val (.bool true))])], els := [(124, .el (pkD P))], W := [(4, [.nilcell 1056 0 500 3, .freeze 500])]}) (subs := [⟨[], [], I5 l n b ls0 0, .exit 0, I5 l n b x l.length⟩, ⟨[], [], J5 x x P k 0, .exit 2, J5 x x P k x.l.length⟩]) (ws := []) (ρ := []) (by kernel_rfl) ?_
  have hx200 : x.l.length ≤ 200 := (chk_zero.1 hi.chk).1
  have hw : IntKind.i64.wrap b = b := by rw [IntKind.wrap_i64]; omega
  have c1 := flip15 x (by omega) (fun y hy => by have : y.d.length ≤ 200 := hi.sm y hy; omega) k b b (by omega)
  have c2 := flip15 A (by omega) (fun y hy => by have : y.d.length ≤ 200 := hsm y hy; omega) k b b (by omega)
  have c3 := take11 x (by omega) k true
  have c4 := take11 C (by omega) k false
  have c5 := same27 x x (by omega)
  rw [decide_eq_true rfl] at c5
  rw [hA, hfa] at c1
  rw [hB, hfb] at c2
  rw [hC, hT, ht] at c3
  rw [hE, hT2, ht2] at c4
  simp only [List.length_map, hw, hk]
  repeat' (first | with_reducible exact True.intro | with_reducible refine And.intro ?_ ?_ | with_reducible refine condP_dec (fun _ => ?_) (fun _ => ?_) | with_reducible refine condP_eq (fun _ => ?_) (fun _ => ?_) | with_reducible refine condP_ne (fun _ => ?_) (fun _ => ?_) | with_reducible refine condP_not (condP_dec (fun _ => ?_) (fun _ => ?_)) | with_reducible refine condP_not (condP_eq (fun _ => ?_) (fun _ => ?_)) | with_reducible refine condP_not (condP_intro (fun _ => ?_) (fun _ => ?_)) | with_reducible refine condP_intro (fun _ => ?_) (fun _ => ?_))
  all_goals first | exact aw7 | exact hL | exact hO | exact c1 | exact c2 | exact c3 | exact c4 | exact c5 | rfl | exact dno (by omega) | exact el_map hP rfl | exact congrArg (D.int .i64) hkn | omega | (refine congrArg D.bool ?_; simp; done) | (refine congrArg D.bool ?_; simp; omega) | (rw [List.drop_zero, hi.c]) | skip

theorem lossyTwice_ok (x0 : D) (s0 : ∃ ds, CK.hasL [.sl true [.int .i64, .int .i64, .str]] ds ∧ (if false then x0 = .agg ds else ds = [x0])) (x1 : D) (s1 : ∃ ds, CK.hasL [.int .u8] ds ∧ (if false then x1 = .agg ds else ds = [x1])) (x2 : D) (s2 : ∃ ds, CK.hasL [.int .u8] ds ∧ (if false then x2 = .agg ds else ds = [x2])) :
    FnOK Try.prog 5 [.d x0, .d x1, .d x2] [] (.d (.bool true)) [] := by
  obtain ⟨l, rfl, -, -⟩ := pks_of (ck1 s0)
  obtain ⟨n, rfl, n0, n1⟩ := has_u8 (ck1 s1)
  obtain ⟨b, rfl, b0, b1⟩ := has_u8 (ck1 s2)
  by_cases hl : l.length ≤ 100
  · rcases all_or Sm l with hp | ⟨m, p, h1, h2, h3⟩
    · have hi : Inv (lRun l) := inv_run hp inv0
      have hL := l5 l hl hp n b
      generalize lRun l = x at hi hL
      by_cases hne : x.l.length = 0
      · exact two5z l hl n b x hne hL
      · have hk0 : 0 ≤ n.tmod (x.l.length : Int) := by rw [Int.tmod_eq_emod_of_nonneg n0]; exact Int.emod_nonneg _ (by omega)
        have hk1 : n.tmod (x.l.length : Int) < x.l.length := by rw [Int.tmod_eq_emod_of_nonneg n0]; exact Int.emod_lt_of_pos _ (by omega)
        obtain ⟨k, hk⟩ := Int.eq_ofNat_of_zero_le hk0
        have hkl : k < x.l.length := by omega
        have hP := get_of hkl
        have ht : lThere x k = true := there_iff.2 ⟨hi.chk, by omega, by omega⟩
        have hT : lTakeP x k = x.l[k] := by unfold lTakeP; rw [ht, Int.toNat_natCast, hP]; rfl
        have hC : lTake x k true = ⟨x.l, x.s, min (x.c + 1) 1099511627776⟩ := by unfold lTake; rw [ht]; rfl
        have hcC : lChk ⟨x.l, x.s, min (x.c + 1) 1099511627776⟩ = 0 := by
          obtain ⟨q1, q2, q3, q4, q5, q6⟩ := chk_zero.1 hi.chk
          refine chk_zero.2 ⟨q1, q2, q3, q4, ?_, ?_⟩
          · show 0 ≤ min (x.c + 1) 1099511627776; omega
          · show min (x.c + 1) 1099511627776 ≤ 1099511627776; omega
        have ht2 : lThere ⟨x.l, x.s, min (x.c + 1) 1099511627776⟩ k = true := there_iff.2 ⟨hcC, by omega, by show (k : Int) < (x.l.length : Int); omega⟩
        have hT2 : lTakeP ⟨x.l, x.s, min (x.c + 1) 1099511627776⟩ k = x.l[k] := by unfold lTakeP; rw [ht2, Int.toNat_natCast]; show (x.l[k]?).getD pk0 = _; rw [hP]; rfl
        have hAl : (lFlip x k b b).l.length = x.l.length := by unfold lFlip; split <;> simp
        exact two5y l hl n b b0 b1 x hi hne hL k (by rw [IntKind.wrap_i64]; omega) hk _ hP _ ls0 _ _ _ _ rfl rfl rfl (flip_twice hi.chk hP b) (flip_sm hi.sm) hAl hT hC ht hT2 ht2 rfl rfl (o5 x x _ k hi.chk hi.c)
    · exact two5m l hl n b (m5 l hl n b m p h1 h2 h3)
  · exact two5l l hl n b
end Go.Proofs.Ytoagghehabceaaa
