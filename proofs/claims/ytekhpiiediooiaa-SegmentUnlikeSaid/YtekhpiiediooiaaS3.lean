/-
laws 07: a segment's bytes.
-/
import Derived.Test.YtekhpiiediooiaaS2
set_option linter.unusedSimpArgs false
set_option linter.unusedVariables false
namespace Go.Proofs.Ytekhpiiediooiaa
open Sx Go.RowKit
open C01 (Cur cIn cNumC cNumN cTakeC cTakeS cDone cOpen cD cBE cBE_len cFits cLay cB)
open C03 (cSeal cUnseal)

/-! ### The program's -/
def byB (b : List UInt8) : Ob := .box [.d (.sl (b.map byteD))]
set_option maxRecDepth 100000 in
set_option maxHeartbeats 1000000 in
theorem lay23 (b b' : List UInt8) (hb : b.length < 1000000) (n k : Int) (h : cLay b n k = b') : FnOK Try.prog 23 ([.d (.int .i64 n), .d (.int .i64 k), .ptr 0 0]) ([byB b]) (.tup []) ([byB b']) := by
  refine fnOK_wp (p := (FnOK Try.prog (24 : Nat) [AV.d (D.sl (List.map byteD b)), AV.d (D.int IntKind.i64 n), AV.d (D.int IntKind.i64 k)] [] (AV.d (D.sl (List.map byteD b'))) []) ∧ ((AV.tup [] = AV.tup []) ∧ ((Ob.box [AV.d (D.sl (List.map byteD b'))] = Ob.box [AV.d (D.sl (List.map byteD b'))]) ∧ (True)))) (h := {G := [(24, gAns (.d (.sl (b'.map byteD))))]}) (subs := []) (ws := []) (ρ := []) (by kernel_rfl) ?_
  have h1 := C01.lay22 b (by omega) n k
  rw [h] at h1
  repeat' (first | with_reducible exact True.intro | with_reducible refine And.intro ?_ ?_ | with_reducible refine condP_dec (fun _ => ?_) (fun _ => ?_) | with_reducible refine condP_eq (fun _ => ?_) (fun _ => ?_) | with_reducible refine condP_ne (fun _ => ?_) (fun _ => ?_) | with_reducible refine condP_not (condP_dec (fun _ => ?_) (fun _ => ?_)) | with_reducible refine condP_not (condP_eq (fun _ => ?_) (fun _ => ?_)) | with_reducible refine condP_not (condP_intro (fun _ => ?_) (fun _ => ?_)) | with_reducible refine condP_intro (fun _ => ?_) (fun _ => ?_))
  all_goals first | exact h1 | rfl | skip

def f23 : AV := .fn 23 [.ptr 1 0]
def I9 (x : Seg) (b : List UInt8) (j : Nat) : St := ⟨[(1, .ptr 0 0), (5, .ptr 1 0), (6, f23), (48, .d (.sl (x.k.map blD))), (49, .d (.int .i64 x.k.length)), (50, .d (.int .i64 j))], [(0, sgBD x), (1, byB b)]⟩
set_option maxRecDepth 100000 in
set_option maxHeartbeats 1000000 in
theorem r9 (x : Seg) (hl : x.k.length ≤ 3) (b b1 b2 : List UInt8) (hb : b.length < 1000) (hb1 : b1.length < 1000) (j : Nat) (u v : Int) (hn : x.k[j]? = some (u, v)) (hu : 0 ≤ u ∧ u < 4294967296) (hv : 0 ≤ v ∧ v < 4294967296) (h1 : cLay b u 4 = b1) (h2 : cLay b1 v 4 = b2) : Runs Try.prog 0 (loopN Try.prog 9 0) (St.as (I9 x b j) 76) (.normal) (St.as (I9 x b2 (j+1)) 76) := by
  refine round_wp (p := condP (decide ((↑j : Int) < (↑x.k.length : Int))) (((0 : Int) ≤ (↑j : Int)) ∧ (((List.map blD x.k)[(↑j : Int).toNat]? = some (D.agg [D.int IntKind.u32 (u, v).fst, D.int IntKind.u32 (u, v).snd])) ∧ ((FnOK Try.prog (23 : Nat) [AV.d (D.int IntKind.i64 (IntKind.i64.wrap (u, v).fst)), AV.d (D.int IntKind.i64 (4 : Int)), AV.ptr (0 : Nat) (0 : Nat)] [Ob.box [AV.d (D.sl (List.map byteD b))]] (AV.tup []) [Ob.box [AV.d (D.sl (List.map byteD b1))]]) ∧ ((FnOK Try.prog (23 : Nat) [AV.d (D.int IntKind.i64 (IntKind.i64.wrap (u, v).snd)), AV.d (D.int IntKind.i64 (4 : Int)), AV.ptr (0 : Nat) (0 : Nat)] [Ob.box [AV.d (D.sl (List.map byteD b1))]] (AV.tup []) [Ob.box [AV.d (D.sl (List.map byteD b2))]]) ∧ ((AV.ptr (0 : Nat) (0 : Nat) = AV.ptr (0 : Nat) (0 : Nat)) ∧ ((AV.ptr (1 : Nat) (0 : Nat) = AV.ptr (1 : Nat) (0 : Nat)) ∧ ((AV.fn (23 : Nat) [AV.ptr (1 : Nat) (0 : Nat)] = AV.fn (23 : Nat) [AV.ptr (1 : Nat) (0 : Nat)]) ∧ ((AV.d (D.sl (List.map blD x.k)) = AV.d (D.sl (List.map blD x.k))) ∧ ((AV.d (D.int IntKind.i64 (↑x.k.length : Int)) = AV.d (D.int IntKind.i64 (↑x.k.length : Int))) ∧ ((AV.d (D.int IntKind.i64 (IntKind.i64.wrap ((↑j : Int) + (1 : Int)))) = AV.d (D.int IntKind.i64 (↑(j + (1 : Nat)) : Int))) ∧ ((Ob.box [AV.d (D.int IntKind.u8 x.f), AV.d (D.int IntKind.i64 x.p), AV.d (D.int IntKind.i64 x.e), AV.d (D.int IntKind.u32 x.q), AV.d (D.int IntKind.u32 x.a), AV.d (D.int IntKind.i64 x.w), AV.d (D.sl (List.map blD x.k)), AV.d (D.str x.t)] = Ob.box [AV.d (D.int IntKind.u8 x.f), AV.d (D.int IntKind.i64 x.p), AV.d (D.int IntKind.i64 x.e), AV.d (D.int IntKind.u32 x.q), AV.d (D.int IntKind.u32 x.a), AV.d (D.int IntKind.i64 x.w), AV.d (D.sl (List.map blD x.k)), AV.d (D.str x.t)]) ∧ ((Ob.box [AV.d (D.sl (List.map byteD b2))] = Ob.box [AV.d (D.sl (List.map byteD b2))]) ∧ (True))))))))))))) (False)) (h := {els := [(48, .el (blD (u, v))), (54, .call [1] (.tup []) [byB b1]), (59, .call [1] (.tup []) [byB b2])]}) (subs := []) (ws := []) (ρ := []) (by kernel_rfl) ?_
  have hj := get_lt hn
  have k1 := lay23 b b1 (by omega) u 4 h1
  have k2 := lay23 b1 b2 (by omega) v 4 h2
  have w1 : IntKind.i64.wrap u = u := by rw [IntKind.wrap_i64]; omega
  have w2 : IntKind.i64.wrap v = v := by rw [IntKind.wrap_i64]; omega
  rw [inc_i64 (by omega)]
  simp only [w1, w2]
  refine condP_t (by rw [decide_eq_true_eq]; omega) ?_
  repeat' (first | with_reducible exact True.intro | with_reducible refine And.intro ?_ ?_ | with_reducible refine condP_dec (fun _ => ?_) (fun _ => ?_) | with_reducible refine condP_eq (fun _ => ?_) (fun _ => ?_) | with_reducible refine condP_ne (fun _ => ?_) (fun _ => ?_) | with_reducible refine condP_not (condP_dec (fun _ => ?_) (fun _ => ?_)) | with_reducible refine condP_not (condP_eq (fun _ => ?_) (fun _ => ?_)) | with_reducible refine condP_not (condP_intro (fun _ => ?_) (fun _ => ?_)) | with_reducible refine condP_intro (fun _ => ?_) (fun _ => ?_))
  all_goals first | exact k1 | exact k2 | exact el_map hn rfl | rfl | omega | skip

set_option maxRecDepth 100000 in
set_option maxHeartbeats 1000000 in
theorem q9 (x : Seg) (b : List UInt8) : Runs Try.prog 0 (loopN Try.prog 9 0) (St.as (I9 x b x.k.length) 76) (.exit 0) (St.as (I9 x b x.k.length) 76) := by
  refine round_wp (p := condP (decide ((↑x.k.length : Int) < (↑x.k.length : Int))) (False) ((AV.ptr (0 : Nat) (0 : Nat) = AV.ptr (0 : Nat) (0 : Nat)) ∧ ((AV.ptr (1 : Nat) (0 : Nat) = AV.ptr (1 : Nat) (0 : Nat)) ∧ ((AV.fn (23 : Nat) [AV.ptr (1 : Nat) (0 : Nat)] = AV.fn (23 : Nat) [AV.ptr (1 : Nat) (0 : Nat)]) ∧ ((AV.d (D.sl (List.map blD x.k)) = AV.d (D.sl (List.map blD x.k))) ∧ ((AV.d (D.int IntKind.i64 (↑x.k.length : Int)) = AV.d (D.int IntKind.i64 (↑x.k.length : Int))) ∧ ((AV.d (D.int IntKind.i64 (↑x.k.length : Int)) = AV.d (D.int IntKind.i64 (↑x.k.length : Int))) ∧ ((Ob.box [AV.d (D.int IntKind.u8 x.f), AV.d (D.int IntKind.i64 x.p), AV.d (D.int IntKind.i64 x.e), AV.d (D.int IntKind.u32 x.q), AV.d (D.int IntKind.u32 x.a), AV.d (D.int IntKind.i64 x.w), AV.d (D.sl (List.map blD x.k)), AV.d (D.str x.t)] = Ob.box [AV.d (D.int IntKind.u8 x.f), AV.d (D.int IntKind.i64 x.p), AV.d (D.int IntKind.i64 x.e), AV.d (D.int IntKind.u32 x.q), AV.d (D.int IntKind.u32 x.a), AV.d (D.int IntKind.i64 x.w), AV.d (D.sl (List.map blD x.k)), AV.d (D.str x.t)]) ∧ ((Ob.box [AV.d (D.sl (List.map byteD b))] = Ob.box [AV.d (D.sl (List.map byteD b))]) ∧ (True)))))))))) (h := {}) (subs := []) (ws := []) (ρ := []) (by kernel_rfl) ?_
  repeat' (first | with_reducible exact True.intro | with_reducible refine And.intro ?_ ?_ | with_reducible refine condP_dec (fun _ => ?_) (fun _ => ?_) | with_reducible refine condP_eq (fun _ => ?_) (fun _ => ?_) | with_reducible refine condP_ne (fun _ => ?_) (fun _ => ?_) | with_reducible refine condP_not (condP_dec (fun _ => ?_) (fun _ => ?_)) | with_reducible refine condP_not (condP_eq (fun _ => ?_) (fun _ => ?_)) | with_reducible refine condP_not (condP_intro (fun _ => ?_) (fun _ => ?_)) | with_reducible refine condP_intro (fun _ => ?_) (fun _ => ?_))
  all_goals (try simp only [List.length_map, AV.d.injEq, D.int.injEq, D.bool.injEq, D.str.injEq, D.sl.injEq, true_and, and_true, decide_eq_true_eq, decide_eq_false_iff_not, decide_eq_decide])
  all_goals (try simp only [List.length_map] at *)
  all_goals first | rfl | omega

theorem zK_take {l : List (Int × Int)} {j : Nat} {u v : Int} (h : l[j]? = some (u, v)) : bytesZ (zK (l.take (j + 1))) = bytesZ (zK (l.take j)) ++ cBE 4 u.toNat ++ cBE 4 v.toNat := by
  rw [take_snoc h]
  have e : zK (l.take j ++ [(u, v)]) = zK (l.take j) ++ [(u.toNat, 4), (v.toNat, 4)] := by unfold zK; rw [List.flatMap_append]; rfl
  rw [e, bytesZ_append, List.append_assoc]; rfl
theorem zK_len (l : List (Int × Int)) : (bytesZ (zK l)).length = 8 * l.length := by
  induction l with
  | nil => rfl
  | cons b r ih =>
    have e : bytesZ (zK (b :: r)) = cBE 4 b.1.toNat ++ (cBE 4 b.2.toNat ++ bytesZ (zK r)) := rfl
    rw [e]; simp [cBE_len, ih]; omega
theorem lay_int {b : List UInt8} {n : Int} {k : Nat} (h0 : 0 ≤ n) (h : n.toNat < 256 ^ k) (h1 : 1 ≤ k) (h7 : k ≤ 7) : cLay b n k = b ++ cBE k n.toNat := by
  have := lay_of (b := b) h h1 h7
  rw [Int.toNat_of_nonneg h0] at this
  exact this
theorem l9 (x : Seg) (hl : x.k.length ≤ 3) (hk : ∀ b ∈ x.k, (0 ≤ b.1 ∧ b.1 < 4294967296) ∧ 0 ≤ b.2 ∧ b.2 < 4294967296) (b : List UInt8) (hb : b.length < 100) : Loops Try.prog 0 (loopN Try.prog 9 0) ((I9 x b 0).as 76) (.exit 0) ((I9 x (b ++ bytesZ (zK x.k)) x.k.length).as 76) := by
  have e := loops_n (P := Try.prog) (k := 0) (c := loopN Try.prog 9 0) (I := fun j => (I9 x (b ++ bytesZ (zK (x.k.take j))) j).as 76) (e := .exit 0) (by simp) x.k.length 0 (by omega) (fun j _ hj => by
    have hn : x.k[j]? = some (x.k[j].1, x.k[j].2) := by simp [hj]
    have hb2 := hk _ (List.getElem_mem hj)
    have hz := zK_len (x.k.take j)
    have ht : (x.k.take j).length ≤ 3 := by simp; omega
    refine r9 x hl _ (b ++ bytesZ (zK (x.k.take j)) ++ cBE 4 x.k[j].1.toNat) _ (by simp; omega) (by simp [cBE_len]; omega) j _ _ hn hb2.1 hb2.2 (lay_int (k := 4) hb2.1.1 (by omega) (by omega) (by omega)) ?_
    rw [zK_take hn]
    have := lay_int (b := b ++ bytesZ (zK (x.k.take j)) ++ cBE 4 x.k[j].1.toNat) (n := x.k[j].2) (k := 4) hb2.2.1 (by omega) (by omega) (by omega)
    refine this.trans ?_
    simp) (q9 x _)
  rw [List.take_length] at e
  have e0 : b ++ bytesZ (zK (x.k.take 0)) = b := by simp [zK, bytesZ]
  rw [e0] at e
  exact e
set_option maxRecDepth 100000 in
set_option maxHeartbeats 1000000 in
theorem put9y (x : Seg) (ho : OkS x) (hc : gChk x = 0) (h1 : x.f ≤ 31) (h2 : 0 ≤ x.p ∧ x.p ≤ 3) (h3 : 0 ≤ x.e ∧ x.e ≤ 65535) (h4 : 0 ≤ x.w ∧ x.w ≤ 65535) (h5 : x.k.length ≤ 3) (h6 : x.t.length ≤ 48) (b1 b2 b3 b4 b5 b6 b7 b8 b9 : List UInt8) (g1 : cLay [] x.f 1 = b1) (g2 : cLay b1 x.p 1 = b2) (g3 : cLay b2 x.e 2 = b3) (g4 : cLay b3 x.q 4 = b4) (g5 : cLay b4 x.a 4 = b5) (g6 : cLay b5 x.w 2 = b6) (g7 : cLay b6 x.k.length 1 = b7) (g8 : b7 ++ bytesZ (zK x.k) = b8) (g9 : cLay b8 x.t.length 1 = b9) (l1 : b1.length < 100) (l2 : b2.length < 100) (l3 : b3.length < 100) (l4 : b4.length < 100) (l5 : b5.length < 100) (l6 : b6.length < 100) (l7 : b7.length < 100) (l8 : b8.length < 1000) (l9' : b9.length < 1000) : FnOK Try.prog 9 ([.d (sgD x)]) ([]) (.tup [.d (.str (cSeal (b9 ++ x.t))), .d (.int .i64 0)]) ([]) := by
  refine fnOK_wp (p := (FnOK Try.prog (11 : Nat) [AV.d (D.agg [D.int IntKind.u8 x.f, D.int IntKind.i64 x.p, D.int IntKind.i64 x.e, D.int IntKind.u32 x.q, D.int IntKind.u32 x.a, D.int IntKind.i64 x.w, D.sl (List.map blD x.k), D.str x.t])] [] (AV.d (D.int IntKind.i64 (0 : Int))) []) ∧ ((FnOK Try.prog (23 : Nat) [AV.d (D.int IntKind.i64 (IntKind.i64.wrap x.f)), AV.d (D.int IntKind.i64 (1 : Int)), AV.ptr (0 : Nat) (0 : Nat)] [Ob.box [AV.d (D.sl [])]] (AV.tup []) [Ob.box [AV.d (D.sl (List.map byteD b1))]]) ∧ ((FnOK Try.prog (23 : Nat) [AV.d (D.int IntKind.i64 x.p), AV.d (D.int IntKind.i64 (1 : Int)), AV.ptr (0 : Nat) (0 : Nat)] [Ob.box [AV.d (D.sl (List.map byteD b1))]] (AV.tup []) [Ob.box [AV.d (D.sl (List.map byteD b2))]]) ∧ ((FnOK Try.prog (23 : Nat) [AV.d (D.int IntKind.i64 x.e), AV.d (D.int IntKind.i64 (2 : Int)), AV.ptr (0 : Nat) (0 : Nat)] [Ob.box [AV.d (D.sl (List.map byteD b2))]] (AV.tup []) [Ob.box [AV.d (D.sl (List.map byteD b3))]]) ∧ ((FnOK Try.prog (23 : Nat) [AV.d (D.int IntKind.i64 (IntKind.i64.wrap x.q)), AV.d (D.int IntKind.i64 (4 : Int)), AV.ptr (0 : Nat) (0 : Nat)] [Ob.box [AV.d (D.sl (List.map byteD b3))]] (AV.tup []) [Ob.box [AV.d (D.sl (List.map byteD b4))]]) ∧ ((FnOK Try.prog (23 : Nat) [AV.d (D.int IntKind.i64 (IntKind.i64.wrap x.a)), AV.d (D.int IntKind.i64 (4 : Int)), AV.ptr (0 : Nat) (0 : Nat)] [Ob.box [AV.d (D.sl (List.map byteD b4))]] (AV.tup []) [Ob.box [AV.d (D.sl (List.map byteD b5))]]) ∧ ((FnOK Try.prog (23 : Nat) [AV.d (D.int IntKind.i64 x.w), AV.d (D.int IntKind.i64 (2 : Int)), AV.ptr (0 : Nat) (0 : Nat)] [Ob.box [AV.d (D.sl (List.map byteD b5))]] (AV.tup []) [Ob.box [AV.d (D.sl (List.map byteD b6))]]) ∧ ((FnOK Try.prog (23 : Nat) [AV.d (D.int IntKind.i64 (↑(List.map blD x.k).length : Int)), AV.d (D.int IntKind.i64 (1 : Int)), AV.ptr (0 : Nat) (0 : Nat)] [Ob.box [AV.d (D.sl (List.map byteD b6))]] (AV.tup []) [Ob.box [AV.d (D.sl (List.map byteD b7))]]) ∧ ((AV.ptr (1008 : Nat) (0 : Nat) = AV.ptr (1008 : Nat) (0 : Nat)) ∧ ((AV.ptr (1040 : Nat) (0 : Nat) = AV.ptr (1040 : Nat) (0 : Nat)) ∧ ((AV.fn (23 : Nat) [AV.ptr (1040 : Nat) (0 : Nat)] = AV.fn (23 : Nat) [AV.ptr (1040 : Nat) (0 : Nat)]) ∧ ((AV.d (D.sl (List.map blD x.k)) = AV.d (D.sl (List.map blD x.k))) ∧ ((AV.d (D.int IntKind.i64 (↑(List.map blD x.k).length : Int)) = AV.d (D.int IntKind.i64 (↑x.k.length : Int))) ∧ ((AV.d (D.int IntKind.i64 (0 : Int)) = AV.d (D.int IntKind.i64 (0 : Int))) ∧ ((Ob.box [AV.d (D.int IntKind.u8 x.f), AV.d (D.int IntKind.i64 x.p), AV.d (D.int IntKind.i64 x.e), AV.d (D.int IntKind.u32 x.q), AV.d (D.int IntKind.u32 x.a), AV.d (D.int IntKind.i64 x.w), AV.d (D.sl (List.map blD x.k)), AV.d (D.str x.t)] = Ob.box [AV.d (D.int IntKind.u8 x.f), AV.d (D.int IntKind.i64 x.p), AV.d (D.int IntKind.i64 x.e), AV.d (D.int IntKind.u32 x.q), AV.d (D.int IntKind.u32 x.a), AV.d (D.int IntKind.i64 x.w), AV.d (D.sl (List.map blD x.k)), AV.d (D.str x.t)]) ∧ ((Ob.box [AV.d (D.sl (List.map byteD b7))] = Ob.box [AV.d (D.sl (List.map byteD b7))]) ∧ ((LoopsS Try.prog (0 : Nat) (loopN Try.prog (9 : Nat) (0 : Nat)) (I9 x b7 (0 : Nat)) (Exit.exit (0 : Nat)) (I9 x b8 x.k.length) (76 : Nat)) ∧ ((FnOK Try.prog (23 : Nat) [AV.d (D.int IntKind.i64 (↑x.t.length : Int)), AV.d (D.int IntKind.i64 (1 : Int)), AV.ptr (0 : Nat) (0 : Nat)] [Ob.box [AV.d (D.sl (List.map byteD b8))]] (AV.tup []) [Ob.box [AV.d (D.sl (List.map byteD b9))]]) ∧ ((List.map byteD b9 = List.map byteD b9) ∧ (((↑(b9.length + x.t.length) : Int) ≤ (9223372036854775807 : Int)) ∧ ((FnOK Try.prog (25 : Nat) [AV.d (D.str (b9 ++ x.t))] [] (AV.d (D.str (cSeal (b9 ++ x.t)))) []) ∧ ((AV.tup [AV.d (D.str (cSeal (b9 ++ x.t))), AV.d (D.int IntKind.i64 (0 : Int))] = AV.tup [AV.d (D.str (cSeal (b9 ++ x.t))), AV.d (D.int IntKind.i64 (0 : Int))]) ∧ (True))))))))))))))))))))))) (h := {G := [(11, gAns (.d (.int .i64 0))), (25, gAns (.d (.str (cSeal (b9 ++ x.t)))))], W := [(5, [.nilcell 1040 0 500 1, .freeze 500])], els := [(15, .call [1040] (.tup []) [byB b1]), (20, .call [1040] (.tup []) [byB b2]), (24, .call [1040] (.tup []) [byB b3]), (28, .call [1040] (.tup []) [byB b4]), (33, .call [1040] (.tup []) [byB b5]), (38, .call [1040] (.tup []) [byB b6]), (42, .call [1040] (.tup []) [byB b7]), (65, .call [1] (.tup []) [byB b9])], H := [(20, [(1, .str b9)])]}) (subs := [⟨[], [], I9 x b7 0, .exit 0, I9 x b8 x.k.length⟩]) (ws := []) (ρ := []) (by kernel_rfl) ?_
  have k0 := chk16 x ho.f.1 ho.f.2
  rw [hc] at k0
  have k1 := lay23 [] b1 (by decide) x.f 1 g1
  have k2 := lay23 b1 b2 (by omega) x.p 1 g2
  have k3 := lay23 b2 b3 (by omega) x.e 2 g3
  have k4 := lay23 b3 b4 (by omega) x.q 4 g4
  have k5 := lay23 b4 b5 (by omega) x.a 4 g5
  have k6 := lay23 b5 b6 (by omega) x.w 2 g6
  have k7 := lay23 b6 b7 (by omega) x.k.length 1 g7
  have k8 := l9 x h5 ho.k b7 l7
  rw [g8] at k8
  have k9 := lay23 b8 b9 (by omega) x.t.length 1 g9
  have k10 := C03.seal13 (b9 ++ x.t) (by simp; omega)
  have w1 : IntKind.i64.wrap x.f = x.f := by have := ho.f; rw [IntKind.wrap_i64]; omega
  have w4 : IntKind.i64.wrap x.q = x.q := by have := ho.q; rw [IntKind.wrap_i64]; omega
  have w5 : IntKind.i64.wrap x.a = x.a := by have := ho.a; rw [IntKind.wrap_i64]; omega
  have hmx : IntKind.i64.max = 9223372036854775807 := by decide
  simp only [List.length_map, w1, w4, w5]
  repeat' (first | with_reducible exact True.intro | with_reducible refine And.intro ?_ ?_ | with_reducible refine condP_dec (fun _ => ?_) (fun _ => ?_) | with_reducible refine condP_eq (fun _ => ?_) (fun _ => ?_) | with_reducible refine condP_ne (fun _ => ?_) (fun _ => ?_) | with_reducible refine condP_not (condP_dec (fun _ => ?_) (fun _ => ?_)) | with_reducible refine condP_not (condP_eq (fun _ => ?_) (fun _ => ?_)) | with_reducible refine condP_not (condP_intro (fun _ => ?_) (fun _ => ?_)) | with_reducible refine condP_intro (fun _ => ?_) (fun _ => ?_))
  all_goals first | exact k0 | exact k1 | exact k2 | exact k3 | exact k4 | exact k5 | exact k6 | exact k7 | exact k8 | exact k9 | exact k10 | rfl | omega | skip

set_option maxRecDepth 100000 in
set_option maxHeartbeats 1000000 in
theorem put9n (x : Seg) (ho : OkS x) (hc : gChk x ≠ 0) : FnOK Try.prog 9 ([.d (sgD x)]) ([]) (.tup [.d (.str []), .d (.int .i64 (gChk x))]) ([]) := by
  refine fnOK_wp (p := (FnOK Try.prog (11 : Nat) [AV.d (D.agg [D.int IntKind.u8 x.f, D.int IntKind.i64 x.p, D.int IntKind.i64 x.e, D.int IntKind.u32 x.q, D.int IntKind.u32 x.a, D.int IntKind.i64 x.w, D.sl (List.map blD x.k), D.str x.t])] [] (AV.d (D.int IntKind.i64 (gChk x))) []) ∧ ((D.bool (gChk x != (0 : Int)) = D.bool true) ∧ ((AV.tup [AV.d (D.str []), AV.d (D.int IntKind.i64 (gChk x))] = AV.tup [AV.d (D.str []), AV.d (D.int IntKind.i64 (gChk x))]) ∧ (True)))) (h := {G := [(11, gAns (.d (.int .i64 (gChk x))))], H := [(2, [(1, .val (.bool true))])]}) (subs := []) (ws := []) (ρ := []) (by kernel_rfl) ?_
  have k0 := chk16 x ho.f.1 ho.f.2
  repeat' (first | with_reducible exact True.intro | with_reducible refine And.intro ?_ ?_ | with_reducible refine condP_dec (fun _ => ?_) (fun _ => ?_) | with_reducible refine condP_eq (fun _ => ?_) (fun _ => ?_) | with_reducible refine condP_ne (fun _ => ?_) (fun _ => ?_) | with_reducible refine condP_not (condP_dec (fun _ => ?_) (fun _ => ?_)) | with_reducible refine condP_not (condP_eq (fun _ => ?_) (fun _ => ?_)) | with_reducible refine condP_not (condP_intro (fun _ => ?_) (fun _ => ?_)) | with_reducible refine condP_intro (fun _ => ?_) (fun _ => ?_))
  all_goals first | exact k0 | rfl | (refine congrArg D.bool ?_; simp; exact hc) | skip

theorem zH_bytes (x : Seg) : bytesZ (zH x) = (((((([] ++ cBE 1 x.f.toNat) ++ cBE 1 x.p.toNat) ++ cBE 2 x.e.toNat) ++ cBE 4 x.q.toNat) ++ cBE 4 x.a.toNat) ++ cBE 2 x.w.toNat) ++ cBE 1 x.k.length := by
  unfold zH bytesZ; simp
theorem put9 (x : Seg) (ho : OkS x) : FnOK Try.prog 9 [.d (sgD x)] [] (.tup [.d (.str (gPut x)), .d (.int .i64 (gChk x))]) [] := by
  unfold gPut
  by_cases hc : gChk x = 0
  · obtain ⟨h1, h2, h3, h4, h5, h6⟩ := chk_zero ho hc
    rw [if_pos hc, hc]
    have hz := zK_len x.k
    have hp := put9y x ho hc h1 h2 h3 h4 h5 h6 _ _ _ _ _ _ _ _ _ (lay_int (k := 1) ho.f.1 (by have := ho.f; omega) (by omega) (by omega)) (lay_int (k := 1) h2.1 (by omega) (by omega) (by omega)) (lay_int (k := 2) h3.1 (by omega) (by omega) (by omega)) (lay_int (k := 4) ho.q.1 (by have := ho.q; omega) (by omega) (by omega)) (lay_int (k := 4) ho.a.1 (by have := ho.a; omega) (by omega) (by omega)) (lay_int (k := 2) h4.1 (by omega) (by omega) (by omega)) (lay_of (k := 1) (by omega) (by omega) (by omega)) rfl (lay_of (k := 1) (by omega) (by omega) (by omega)) (by simp [cBE_len]) (by simp [cBE_len]) (by simp [cBE_len]) (by simp [cBE_len]) (by simp [cBE_len]) (by simp [cBE_len]) (by simp [cBE_len]) (by simp [cBE_len, hz]; omega) (by simp [cBE_len, hz]; omega)
    rw [← zH_bytes] at hp
    have e1 : bytesZ (zT x) = cBE 1 x.t.length := by unfold zT bytesZ; simp
    have e : body x = bytesZ (zH x) ++ bytesZ (zK x.k) ++ cBE 1 x.t.length ++ x.t := by unfold body; rw [e1]
    rw [e]
    exact hp
  · rw [if_neg hc]
    exact put9n x ho hc
/-! ### The document's -/
set_option maxRecDepth 100000 in
set_option maxHeartbeats 1000000 in
theorem widths26  : FnOK Try.prog 26 ([]) ([]) (.d (.sl [.int .i64 1, .int .i64 1, .int .i64 2, .int .i64 4, .int .i64 4, .int .i64 2, .int .i64 1])) ([]) := by
  refine fnOK_wp (p := (AV.d (D.sl [D.int IntKind.i64 (1 : Int), D.int IntKind.i64 (1 : Int), D.int IntKind.i64 (2 : Int), D.int IntKind.i64 (4 : Int), D.int IntKind.i64 (4 : Int), D.int IntKind.i64 (2 : Int), D.int IntKind.i64 (1 : Int)]) = AV.d (D.sl [D.int IntKind.i64 (1 : Int), D.int IntKind.i64 (1 : Int), D.int IntKind.i64 (2 : Int), D.int IntKind.i64 (4 : Int), D.int IntKind.i64 (4 : Int), D.int IntKind.i64 (2 : Int), D.int IntKind.i64 (1 : Int)])) ∧ (True)) (h := {}) (subs := []) (ws := []) (ρ := []) (by kernel_rfl) ?_
  exact ⟨rfl, trivial⟩

def wdD : List D := [.int .i64 1, .int .i64 1, .int .i64 2, .int .i64 4, .int .i64 4, .int .i64 2, .int .i64 1]
def hdD (x : Seg) : List D := [.int .i64 x.f, .int .i64 x.p, .int .i64 x.e, .int .i64 x.q, .int .i64 x.a, .int .i64 x.w, .int .i64 x.k.length]
def I10' (x : Seg) (b : List UInt8) (j : Nat) : St := ⟨[(1, .ptr 0 0), (5, .own 1 1), (6, .d (.sl wdD)), (7, .d (.sl (b.map byteD))), (8, .d (.int .i64 j))], [(0, sgBD x), (1, .row 1 (hdD x))]⟩
set_option maxRecDepth 100000 in
set_option maxHeartbeats 1000000 in
theorem r10h (x : Seg) (b b' : List UInt8) (hb : b.length < 1000) (j : Nat) (hj : j < 7) (n : Int) (k : Nat) (n0 : n < 9223372036854775808) (hn : (hdD x)[j]? = some (.int .i64 n)) (hk : wdD[j]? = some (.int .i64 k)) (h : cLay b n k = b') : Runs Try.prog 0 (loopN Try.prog 10 0) (St.as (I10' x b j) 91) (.normal) (St.as (I10' x b' (j+1)) 91) := by
  refine round_wp (p := (D.bool (decide ((↑j : Int) < (↑(hdD x).length : Int))) = D.bool true) ∧ ((D.bool true = D.bool true) ∧ ((D.bool (decide ((↑j : Int) < (7 : Int))) = D.bool true) ∧ (((0 : Int) ≤ (↑j : Int) ∧ (↑j : Int) < (↑(hdD x).length : Int)) ∧ (((1 : Nat) = (1 : Nat)) ∧ (((hdD x)[(↑j : Int).toNat]? = some (D.int IntKind.i64 n)) ∧ (((0 : Int) ≤ (↑j : Int)) ∧ ((wdD[(↑j : Int).toNat]? = some (D.int IntKind.i64 (↑k : Int))) ∧ ((FnOK Try.prog (27 : Nat) [AV.d (D.sl (List.map byteD b)), AV.d (D.int IntKind.i64 n), AV.d (D.int IntKind.i64 (↑k : Int))] [] (AV.d (D.sl (List.map byteD b'))) []) ∧ ((AV.ptr (0 : Nat) (0 : Nat) = AV.ptr (0 : Nat) (0 : Nat)) ∧ ((AV.own (1 : Nat) (1 : Nat) = AV.own (1 : Nat) (1 : Nat)) ∧ ((AV.d (D.sl [D.int IntKind.i64 (1 : Int), D.int IntKind.i64 (1 : Int), D.int IntKind.i64 (2 : Int), D.int IntKind.i64 (4 : Int), D.int IntKind.i64 (4 : Int), D.int IntKind.i64 (2 : Int), D.int IntKind.i64 (1 : Int)]) = AV.d (D.sl [D.int IntKind.i64 (1 : Int), D.int IntKind.i64 (1 : Int), D.int IntKind.i64 (2 : Int), D.int IntKind.i64 (4 : Int), D.int IntKind.i64 (4 : Int), D.int IntKind.i64 (2 : Int), D.int IntKind.i64 (1 : Int)])) ∧ ((AV.d (D.sl (List.map byteD b')) = AV.d (D.sl (List.map byteD b'))) ∧ ((AV.d (D.int IntKind.i64 (IntKind.i64.wrap ((↑j : Int) + (1 : Int)))) = AV.d (D.int IntKind.i64 (↑(j + (1 : Nat)) : Int))) ∧ ((Ob.box [AV.d (D.int IntKind.u8 x.f), AV.d (D.int IntKind.i64 x.p), AV.d (D.int IntKind.i64 x.e), AV.d (D.int IntKind.u32 x.q), AV.d (D.int IntKind.u32 x.a), AV.d (D.int IntKind.i64 x.w), AV.d (D.sl (List.map blD x.k)), AV.d (D.str x.t)] = Ob.box [AV.d (D.int IntKind.u8 x.f), AV.d (D.int IntKind.i64 x.p), AV.d (D.int IntKind.i64 x.e), AV.d (D.int IntKind.u32 x.q), AV.d (D.int IntKind.u32 x.a), AV.d (D.int IntKind.i64 x.w), AV.d (D.sl (List.map blD x.k)), AV.d (D.str x.t)]) ∧ ((Ob.row (1 : Nat) [D.int IntKind.i64 x.f, D.int IntKind.i64 x.p, D.int IntKind.i64 x.e, D.int IntKind.i64 x.q, D.int IntKind.i64 x.a, D.int IntKind.i64 x.w, D.int IntKind.i64 (↑x.k.length : Int)] = Ob.row (1 : Nat) [D.int IntKind.i64 x.f, D.int IntKind.i64 x.p, D.int IntKind.i64 x.e, D.int IntKind.i64 x.q, D.int IntKind.i64 x.a, D.int IntKind.i64 x.w, D.int IntKind.i64 (↑x.k.length : Int)]) ∧ (True))))))))))))))))) (h := {G := [(27, gAns (.d (.sl (b'.map byteD))))], els := [(50, .el (.int .i64 n)), (52, .el (.int .i64 k))], H := [(8, [(3, .val (.bool true)), (8, .val (.bool true))])]}) (subs := []) (ws := []) (ρ := []) (by kernel_rfl) ?_
  have k1 := C01.lay23 b (by omega) n k n0
  rw [h] at k1
  rw [inc_i64 (by omega)]
  repeat' (first | with_reducible exact True.intro | with_reducible refine And.intro ?_ ?_ | with_reducible refine condP_dec (fun _ => ?_) (fun _ => ?_) | with_reducible refine condP_eq (fun _ => ?_) (fun _ => ?_) | with_reducible refine condP_ne (fun _ => ?_) (fun _ => ?_) | with_reducible refine condP_not (condP_dec (fun _ => ?_) (fun _ => ?_)) | with_reducible refine condP_not (condP_eq (fun _ => ?_) (fun _ => ?_)) | with_reducible refine condP_not (condP_intro (fun _ => ?_) (fun _ => ?_)) | with_reducible refine condP_intro (fun _ => ?_) (fun _ => ?_))
  all_goals first | exact k1 | rfl | exact dyes (by omega) | exact dyes (by show (j : Int) < 7; omega) | omega | exact hn | exact hk | (simp; omega) | (show (j : Int) < 7; omega) | skip

set_option maxRecDepth 100000 in
set_option maxHeartbeats 1000000 in
theorem q10h (x : Seg) (b : List UInt8) : Runs Try.prog 0 (loopN Try.prog 10 0) (St.as (I10' x b 7) 91) (.exit 0) (St.as (I10' x b 7) 91) := by
  refine round_wp (p := (D.bool false = D.bool false) ∧ ((AV.ptr (0 : Nat) (0 : Nat) = AV.ptr (0 : Nat) (0 : Nat)) ∧ ((AV.own (1 : Nat) (1 : Nat) = AV.own (1 : Nat) (1 : Nat)) ∧ ((AV.d (D.sl [D.int IntKind.i64 (1 : Int), D.int IntKind.i64 (1 : Int), D.int IntKind.i64 (2 : Int), D.int IntKind.i64 (4 : Int), D.int IntKind.i64 (4 : Int), D.int IntKind.i64 (2 : Int), D.int IntKind.i64 (1 : Int)]) = AV.d (D.sl [D.int IntKind.i64 (1 : Int), D.int IntKind.i64 (1 : Int), D.int IntKind.i64 (2 : Int), D.int IntKind.i64 (4 : Int), D.int IntKind.i64 (4 : Int), D.int IntKind.i64 (2 : Int), D.int IntKind.i64 (1 : Int)])) ∧ ((AV.d (D.sl (List.map byteD b)) = AV.d (D.sl (List.map byteD b))) ∧ ((AV.d (D.int IntKind.i64 (7 : Int)) = AV.d (D.int IntKind.i64 (7 : Int))) ∧ ((Ob.box [AV.d (D.int IntKind.u8 x.f), AV.d (D.int IntKind.i64 x.p), AV.d (D.int IntKind.i64 x.e), AV.d (D.int IntKind.u32 x.q), AV.d (D.int IntKind.u32 x.a), AV.d (D.int IntKind.i64 x.w), AV.d (D.sl (List.map blD x.k)), AV.d (D.str x.t)] = Ob.box [AV.d (D.int IntKind.u8 x.f), AV.d (D.int IntKind.i64 x.p), AV.d (D.int IntKind.i64 x.e), AV.d (D.int IntKind.u32 x.q), AV.d (D.int IntKind.u32 x.a), AV.d (D.int IntKind.i64 x.w), AV.d (D.sl (List.map blD x.k)), AV.d (D.str x.t)]) ∧ ((Ob.row (1 : Nat) [D.int IntKind.i64 x.f, D.int IntKind.i64 x.p, D.int IntKind.i64 x.e, D.int IntKind.i64 x.q, D.int IntKind.i64 x.a, D.int IntKind.i64 x.w, D.int IntKind.i64 (↑x.k.length : Int)] = Ob.row (1 : Nat) [D.int IntKind.i64 x.f, D.int IntKind.i64 x.p, D.int IntKind.i64 x.e, D.int IntKind.i64 x.q, D.int IntKind.i64 x.a, D.int IntKind.i64 x.w, D.int IntKind.i64 (↑x.k.length : Int)]) ∧ (True))))))))) (h := {}) (subs := []) (ws := []) (ρ := []) (by kernel_rfl) ?_
  repeat' (first | with_reducible exact True.intro | with_reducible refine And.intro ?_ ?_ | with_reducible refine condP_dec (fun _ => ?_) (fun _ => ?_) | with_reducible refine condP_eq (fun _ => ?_) (fun _ => ?_) | with_reducible refine condP_ne (fun _ => ?_) (fun _ => ?_) | with_reducible refine condP_not (condP_dec (fun _ => ?_) (fun _ => ?_)) | with_reducible refine condP_not (condP_eq (fun _ => ?_) (fun _ => ?_)) | with_reducible refine condP_not (condP_intro (fun _ => ?_) (fun _ => ?_)) | with_reducible refine condP_intro (fun _ => ?_) (fun _ => ?_))
  all_goals first | rfl | decide | skip

def J10 (x : Seg) (b : List UInt8) (j : Nat) : St := ⟨[(1, .ptr 0 0), (7, .d (.sl (b.map byteD))), (9, .d (.int .i64 j))], [(0, sgBD x)]⟩
def gLy (b1 b2 : List UInt8) (u v : Int) : List D → Option (AV × List Ob) := fun | [.sl _, .int _ n, .int _ _] => some (.d (.sl (b1.map byteD)), []) | _ => none
set_option maxRecDepth 100000 in
set_option maxHeartbeats 1000000 in
theorem r10k (x : Seg) (hl : x.k.length ≤ 3) (b b1 b2 : List UInt8) (hb : b.length < 1000) (hb1 : b1.length < 1000) (j : Nat) (u v : Int) (hn : x.k[j]? = some (u, v)) (hu : 0 ≤ u ∧ u < 4294967296) (hv : 0 ≤ v ∧ v < 4294967296) (h1 : cLay b u 4 = b1) (h2 : cLay b1 v 4 = b2) : Runs Try.prog 0 (loopN Try.prog 10 1) (St.as (J10 x b j) 91) (.normal) (St.as (J10 x b2 (j+1)) 91) := by
  refine round_wp (p := condP (decide ((↑j : Int) < (↑(List.map blD x.k).length : Int))) (((0 : Int) ≤ (↑j : Int)) ∧ (((List.map blD x.k)[(↑j : Int).toNat]? = some (D.agg [D.int IntKind.u32 (u, v).fst, D.int IntKind.u32 (u, v).snd])) ∧ ((FnOK Try.prog (27 : Nat) [AV.d (D.sl (List.map byteD b)), AV.d (D.int IntKind.i64 (IntKind.i64.wrap (u, v).fst)), AV.d (D.int IntKind.i64 (4 : Int))] [] (AV.d (D.sl (List.map byteD b1))) []) ∧ (((0 : Int) ≤ (↑j : Int)) ∧ (((List.map blD x.k)[(↑j : Int).toNat]? = some (D.agg [D.int IntKind.u32 (u, v).fst, D.int IntKind.u32 (u, v).snd])) ∧ ((FnOK Try.prog (27 : Nat) [AV.d (D.sl (List.map byteD b1)), AV.d (D.int IntKind.i64 (IntKind.i64.wrap (u, v).snd)), AV.d (D.int IntKind.i64 (4 : Int))] [] (AV.d (D.sl (List.map byteD b2))) []) ∧ ((AV.ptr (0 : Nat) (0 : Nat) = AV.ptr (0 : Nat) (0 : Nat)) ∧ ((AV.d (D.sl (List.map byteD b2)) = AV.d (D.sl (List.map byteD b2))) ∧ ((AV.d (D.int IntKind.i64 (IntKind.i64.wrap ((↑j : Int) + (1 : Int)))) = AV.d (D.int IntKind.i64 (↑(j + (1 : Nat)) : Int))) ∧ ((Ob.box [AV.d (D.int IntKind.u8 x.f), AV.d (D.int IntKind.i64 x.p), AV.d (D.int IntKind.i64 x.e), AV.d (D.int IntKind.u32 x.q), AV.d (D.int IntKind.u32 x.a), AV.d (D.int IntKind.i64 x.w), AV.d (D.sl (List.map blD x.k)), AV.d (D.str x.t)] = Ob.box [AV.d (D.int IntKind.u8 x.f), AV.d (D.int IntKind.i64 x.p), AV.d (D.int IntKind.i64 x.e), AV.d (D.int IntKind.u32 x.q), AV.d (D.int IntKind.u32 x.a), AV.d (D.int IntKind.i64 x.w), AV.d (D.sl (List.map blD x.k)), AV.d (D.str x.t)]) ∧ (True))))))))))) (False)) (h := {els := [(66, .el (blD (u, v))), (74, .el (blD (u, v)))], H := [(14, [(8, .call [] (.d (.sl (b1.map byteD))) []), (16, .call [] (.d (.sl (b2.map byteD))) [])])]}) (subs := []) (ws := []) (ρ := []) (by kernel_rfl) ?_
  have hj := get_lt hn
  have k1 := C01.lay23 b (by omega) u 4 (by omega)
  have k2 := C01.lay23 b1 (by omega) v 4 (by omega)
  rw [h1] at k1
  rw [h2] at k2
  have w1 : IntKind.i64.wrap u = u := by rw [IntKind.wrap_i64]; omega
  have w2 : IntKind.i64.wrap v = v := by rw [IntKind.wrap_i64]; omega
  rw [inc_i64 (by omega)]
  simp only [w1, w2]
  refine condP_t (by rw [decide_eq_true_eq, List.length_map]; omega) ?_
  repeat' (first | with_reducible exact True.intro | with_reducible refine And.intro ?_ ?_ | with_reducible refine condP_dec (fun _ => ?_) (fun _ => ?_) | with_reducible refine condP_eq (fun _ => ?_) (fun _ => ?_) | with_reducible refine condP_ne (fun _ => ?_) (fun _ => ?_) | with_reducible refine condP_not (condP_dec (fun _ => ?_) (fun _ => ?_)) | with_reducible refine condP_not (condP_eq (fun _ => ?_) (fun _ => ?_)) | with_reducible refine condP_not (condP_intro (fun _ => ?_) (fun _ => ?_)) | with_reducible refine condP_intro (fun _ => ?_) (fun _ => ?_))
  all_goals first | exact k1 | exact k2 | exact el_map hn rfl | rfl | omega | skip

set_option maxRecDepth 100000 in
set_option maxHeartbeats 1000000 in
theorem q10k (x : Seg) (b : List UInt8) : Runs Try.prog 0 (loopN Try.prog 10 1) (St.as (J10 x b x.k.length) 91) (.exit 2) (St.as (J10 x b x.k.length) 91) := by
  refine round_wp (p := condP (decide ((↑x.k.length : Int) < (↑(List.map blD x.k).length : Int))) (False) ((AV.ptr (0 : Nat) (0 : Nat) = AV.ptr (0 : Nat) (0 : Nat)) ∧ ((AV.d (D.sl (List.map byteD b)) = AV.d (D.sl (List.map byteD b))) ∧ ((AV.d (D.int IntKind.i64 (↑x.k.length : Int)) = AV.d (D.int IntKind.i64 (↑x.k.length : Int))) ∧ ((Ob.box [AV.d (D.int IntKind.u8 x.f), AV.d (D.int IntKind.i64 x.p), AV.d (D.int IntKind.i64 x.e), AV.d (D.int IntKind.u32 x.q), AV.d (D.int IntKind.u32 x.a), AV.d (D.int IntKind.i64 x.w), AV.d (D.sl (List.map blD x.k)), AV.d (D.str x.t)] = Ob.box [AV.d (D.int IntKind.u8 x.f), AV.d (D.int IntKind.i64 x.p), AV.d (D.int IntKind.i64 x.e), AV.d (D.int IntKind.u32 x.q), AV.d (D.int IntKind.u32 x.a), AV.d (D.int IntKind.i64 x.w), AV.d (D.sl (List.map blD x.k)), AV.d (D.str x.t)]) ∧ (True)))))) (h := {}) (subs := []) (ws := []) (ρ := []) (by kernel_rfl) ?_
  repeat' (first | with_reducible exact True.intro | with_reducible refine And.intro ?_ ?_ | with_reducible refine condP_dec (fun _ => ?_) (fun _ => ?_) | with_reducible refine condP_eq (fun _ => ?_) (fun _ => ?_) | with_reducible refine condP_ne (fun _ => ?_) (fun _ => ?_) | with_reducible refine condP_not (condP_dec (fun _ => ?_) (fun _ => ?_)) | with_reducible refine condP_not (condP_eq (fun _ => ?_) (fun _ => ?_)) | with_reducible refine condP_not (condP_intro (fun _ => ?_) (fun _ => ?_)) | with_reducible refine condP_intro (fun _ => ?_) (fun _ => ?_))
  all_goals (try simp only [List.length_map, AV.d.injEq, D.int.injEq, D.bool.injEq, D.str.injEq, D.sl.injEq, true_and, and_true, decide_eq_true_eq, decide_eq_false_iff_not, decide_eq_decide])
  all_goals (try simp only [List.length_map] at *)
  all_goals first | rfl | omega

theorem l10k (x : Seg) (hl : x.k.length ≤ 3) (hk : ∀ b ∈ x.k, (0 ≤ b.1 ∧ b.1 < 4294967296) ∧ 0 ≤ b.2 ∧ b.2 < 4294967296) (b : List UInt8) (hb : b.length < 100) : Loops Try.prog 0 (loopN Try.prog 10 1) ((J10 x b 0).as 91) (.exit 2) ((J10 x (b ++ bytesZ (zK x.k)) x.k.length).as 91) := by
  have e := loops_n (P := Try.prog) (k := 0) (c := loopN Try.prog 10 1) (I := fun j => (J10 x (b ++ bytesZ (zK (x.k.take j))) j).as 91) (e := .exit 2) (by simp) x.k.length 0 (by omega) (fun j _ hj => by
    have hn : x.k[j]? = some (x.k[j].1, x.k[j].2) := by simp [hj]
    have hb2 := hk _ (List.getElem_mem hj)
    have hz := zK_len (x.k.take j)
    have ht : (x.k.take j).length ≤ 3 := by simp; omega
    refine r10k x hl _ (b ++ bytesZ (zK (x.k.take j)) ++ cBE 4 x.k[j].1.toNat) _ (by simp; omega) (by simp [cBE_len]; omega) j _ _ hn hb2.1 hb2.2 (lay_int (k := 4) hb2.1.1 (by omega) (by omega) (by omega)) ?_
    rw [zK_take hn]
    have := lay_int (b := b ++ bytesZ (zK (x.k.take j)) ++ cBE 4 x.k[j].1.toNat) (n := x.k[j].2) (k := 4) hb2.2.1 (by omega) (by omega) (by omega)
    refine this.trans ?_
    simp) (q10k x _)
  rw [List.take_length] at e
  have e0 : b ++ bytesZ (zK (x.k.take 0)) = b := by simp [zK, bytesZ]
  rw [e0] at e
  exact e
set_option maxRecDepth 100000 in
set_option maxHeartbeats 1000000 in
theorem put10y (x : Seg) (ho : OkS x) (hc : gChk x = 0) (h6 : x.t.length ≤ 48) (b7 b8 b9 : List UInt8) (g8 : b7 ++ bytesZ (zK x.k) = b8) (g9 : cLay b8 x.t.length 1 = b9) (l7 : b7.length < 100) (l8 : b8.length < 1000) (l9' : b9.length < 1000) (hA : Loops Try.prog 0 (loopN Try.prog 10 0) ((I10' x [] 0).as 91) (.exit 0) ((I10' x b7 7).as 91)) (hB : Loops Try.prog 0 (loopN Try.prog 10 1) ((J10 x b7 0).as 91) (.exit 2) ((J10 x b8 x.k.length).as 91)) : FnOK Try.prog 10 ([.d (sgD x)]) ([]) (.tup [.d (.str (cSeal (b9 ++ x.t))), .d (.int .i64 0)]) ([]) := by
  refine fnOK_wp (p := (FnOK Try.prog (12 : Nat) [AV.d (D.agg [D.int IntKind.u8 x.f, D.int IntKind.i64 x.p, D.int IntKind.i64 x.e, D.int IntKind.u32 x.q, D.int IntKind.u32 x.a, D.int IntKind.i64 x.w, D.sl (List.map blD x.k), D.str x.t])] [] (AV.d (D.int IntKind.i64 (0 : Int))) []) ∧ ((FnOK Try.prog (26 : Nat) [] [] (AV.d (D.sl [D.int IntKind.i64 (1 : Int), D.int IntKind.i64 (1 : Int), D.int IntKind.i64 (2 : Int), D.int IntKind.i64 (4 : Int), D.int IntKind.i64 (4 : Int), D.int IntKind.i64 (2 : Int), D.int IntKind.i64 (1 : Int)])) []) ∧ ((AV.ptr (1008 : Nat) (0 : Nat) = AV.ptr (1008 : Nat) (0 : Nat)) ∧ ((AV.own (1264 : Nat) (1 : Nat) = AV.own (1264 : Nat) (1 : Nat)) ∧ ((AV.d (D.sl [D.int IntKind.i64 (1 : Int), D.int IntKind.i64 (1 : Int), D.int IntKind.i64 (2 : Int), D.int IntKind.i64 (4 : Int), D.int IntKind.i64 (4 : Int), D.int IntKind.i64 (2 : Int), D.int IntKind.i64 (1 : Int)]) = AV.d (D.sl [D.int IntKind.i64 (1 : Int), D.int IntKind.i64 (1 : Int), D.int IntKind.i64 (2 : Int), D.int IntKind.i64 (4 : Int), D.int IntKind.i64 (4 : Int), D.int IntKind.i64 (2 : Int), D.int IntKind.i64 (1 : Int)])) ∧ ((AV.d (D.sl []) = AV.d (D.sl [])) ∧ ((AV.d (D.int IntKind.i64 (0 : Int)) = AV.d (D.int IntKind.i64 (0 : Int))) ∧ ((Ob.box [AV.d (D.int IntKind.u8 x.f), AV.d (D.int IntKind.i64 x.p), AV.d (D.int IntKind.i64 x.e), AV.d (D.int IntKind.u32 x.q), AV.d (D.int IntKind.u32 x.a), AV.d (D.int IntKind.i64 x.w), AV.d (D.sl (List.map blD x.k)), AV.d (D.str x.t)] = Ob.box [AV.d (D.int IntKind.u8 x.f), AV.d (D.int IntKind.i64 x.p), AV.d (D.int IntKind.i64 x.e), AV.d (D.int IntKind.u32 x.q), AV.d (D.int IntKind.u32 x.a), AV.d (D.int IntKind.i64 x.w), AV.d (D.sl (List.map blD x.k)), AV.d (D.str x.t)]) ∧ ((Ob.row (1 : Nat) [D.int IntKind.i64 (IntKind.i64.wrap x.f), D.int IntKind.i64 x.p, D.int IntKind.i64 x.e, D.int IntKind.i64 (IntKind.i64.wrap x.q), D.int IntKind.i64 (IntKind.i64.wrap x.a), D.int IntKind.i64 x.w, D.int IntKind.i64 (↑(List.map blD x.k).length : Int)] = Ob.row (1 : Nat) [D.int IntKind.i64 x.f, D.int IntKind.i64 x.p, D.int IntKind.i64 x.e, D.int IntKind.i64 x.q, D.int IntKind.i64 x.a, D.int IntKind.i64 x.w, D.int IntKind.i64 (↑x.k.length : Int)]) ∧ ((LoopsS Try.prog (0 : Nat) (loopN Try.prog (10 : Nat) (0 : Nat)) (I10' x [] (0 : Nat)) (Exit.exit (0 : Nat)) (I10' x b7 (7 : Nat)) (91 : Nat)) ∧ ((AV.ptr (0 : Nat) (0 : Nat) = AV.ptr (0 : Nat) (0 : Nat)) ∧ ((AV.d (D.sl (List.map byteD b7)) = AV.d (D.sl (List.map byteD b7))) ∧ ((AV.d (D.int IntKind.i64 (0 : Int)) = AV.d (D.int IntKind.i64 (0 : Int))) ∧ ((Ob.box [AV.d (D.int IntKind.u8 x.f), AV.d (D.int IntKind.i64 x.p), AV.d (D.int IntKind.i64 x.e), AV.d (D.int IntKind.u32 x.q), AV.d (D.int IntKind.u32 x.a), AV.d (D.int IntKind.i64 x.w), AV.d (D.sl (List.map blD x.k)), AV.d (D.str x.t)] = Ob.box [AV.d (D.int IntKind.u8 x.f), AV.d (D.int IntKind.i64 x.p), AV.d (D.int IntKind.i64 x.e), AV.d (D.int IntKind.u32 x.q), AV.d (D.int IntKind.u32 x.a), AV.d (D.int IntKind.i64 x.w), AV.d (D.sl (List.map blD x.k)), AV.d (D.str x.t)]) ∧ ((LoopsS Try.prog (0 : Nat) (loopN Try.prog (10 : Nat) (1 : Nat)) (J10 x b7 (0 : Nat)) (Exit.exit (2 : Nat)) (J10 x b8 x.k.length) (91 : Nat)) ∧ ((FnOK Try.prog (27 : Nat) [AV.d (D.sl (List.map byteD b8)), AV.d (D.int IntKind.i64 (↑x.t.length : Int)), AV.d (D.int IntKind.i64 (1 : Int))] [] (AV.d (D.sl (List.map byteD b9))) []) ∧ ((List.map byteD b9 = List.map byteD b9) ∧ (((↑(b9.length + x.t.length) : Int) ≤ (9223372036854775807 : Int)) ∧ ((FnOK Try.prog (28 : Nat) [AV.d (D.str (b9 ++ x.t))] [] (AV.d (D.str (cSeal (b9 ++ x.t)))) []) ∧ ((AV.tup [AV.d (D.str (cSeal (b9 ++ x.t))), AV.d (D.int IntKind.i64 (0 : Int))] = AV.tup [AV.d (D.str (cSeal (b9 ++ x.t))), AV.d (D.int IntKind.i64 (0 : Int))]) ∧ (True))))))))))))))))))))) (h := {G := [(12, gAns (.d (.int .i64 0))), (28, gAns (.d (.str (cSeal (b9 ++ x.t))))), (26, gAns (.d (.sl wdD))), (27, gAns (.d (.sl (b9.map byteD))))], H := [(15, [(5, .str b9)])]}) (subs := [⟨[], [], I10' x [] 0, .exit 0, I10' x b7 7⟩, ⟨[], [], J10 x b7 0, .exit 2, J10 x b8 x.k.length⟩]) (ws := []) (ρ := []) (by kernel_rfl) ?_
  have k0 := chk35 x ho.f.1 ho.f.2
  rw [hc] at k0
  have k9 := C01.lay23 b8 (by omega) x.t.length 1 (by omega)
  rw [g9] at k9
  have k10 := C03.seal14 (b9 ++ x.t) (by simp; omega)
  have w1 : IntKind.i64.wrap x.f = x.f := by have := ho.f; rw [IntKind.wrap_i64]; omega
  have w4 : IntKind.i64.wrap x.q = x.q := by have := ho.q; rw [IntKind.wrap_i64]; omega
  have w5 : IntKind.i64.wrap x.a = x.a := by have := ho.a; rw [IntKind.wrap_i64]; omega
  have hmx : IntKind.i64.max = 9223372036854775807 := by decide
  simp only [List.length_map, w1, w4, w5]
  repeat' (first | with_reducible exact True.intro | with_reducible refine And.intro ?_ ?_ | with_reducible refine condP_dec (fun _ => ?_) (fun _ => ?_) | with_reducible refine condP_eq (fun _ => ?_) (fun _ => ?_) | with_reducible refine condP_ne (fun _ => ?_) (fun _ => ?_) | with_reducible refine condP_not (condP_dec (fun _ => ?_) (fun _ => ?_)) | with_reducible refine condP_not (condP_eq (fun _ => ?_) (fun _ => ?_)) | with_reducible refine condP_not (condP_intro (fun _ => ?_) (fun _ => ?_)) | with_reducible refine condP_intro (fun _ => ?_) (fun _ => ?_))
  all_goals first | exact k0 | exact hA | exact hB | exact k9 | exact k10 | exact widths26 | rfl | omega | skip

set_option maxRecDepth 100000 in
set_option maxHeartbeats 1000000 in
theorem put10n (x : Seg) (ho : OkS x) (hc : gChk x ≠ 0) : FnOK Try.prog 10 ([.d (sgD x)]) ([]) (.tup [.d (.str []), .d (.int .i64 (gChk x))]) ([]) := by
  refine fnOK_wp (p := (FnOK Try.prog (12 : Nat) [AV.d (D.agg [D.int IntKind.u8 x.f, D.int IntKind.i64 x.p, D.int IntKind.i64 x.e, D.int IntKind.u32 x.q, D.int IntKind.u32 x.a, D.int IntKind.i64 x.w, D.sl (List.map blD x.k), D.str x.t])] [] (AV.d (D.int IntKind.i64 (gChk x))) []) ∧ ((D.bool (gChk x != (0 : Int)) = D.bool true) ∧ ((AV.tup [AV.d (D.str []), AV.d (D.int IntKind.i64 (gChk x))] = AV.tup [AV.d (D.str []), AV.d (D.int IntKind.i64 (gChk x))]) ∧ (True)))) (h := {G := [(12, gAns (.d (.int .i64 (gChk x))))], H := [(2, [(1, .val (.bool true))])]}) (subs := []) (ws := []) (ρ := []) (by kernel_rfl) ?_
  have k0 := chk35 x ho.f.1 ho.f.2
  repeat' (first | with_reducible exact True.intro | with_reducible refine And.intro ?_ ?_ | with_reducible refine condP_dec (fun _ => ?_) (fun _ => ?_) | with_reducible refine condP_eq (fun _ => ?_) (fun _ => ?_) | with_reducible refine condP_ne (fun _ => ?_) (fun _ => ?_) | with_reducible refine condP_not (condP_dec (fun _ => ?_) (fun _ => ?_)) | with_reducible refine condP_not (condP_eq (fun _ => ?_) (fun _ => ?_)) | with_reducible refine condP_not (condP_intro (fun _ => ?_) (fun _ => ?_)) | with_reducible refine condP_intro (fun _ => ?_) (fun _ => ?_))
  all_goals first | exact k0 | rfl | (refine congrArg D.bool ?_; simp; exact hc) | skip

theorem put10 (x : Seg) (ho : OkS x) : FnOK Try.prog 10 [.d (sgD x)] [] (.tup [.d (.str (gPut x)), .d (.int .i64 (gChk x))]) [] := by
  unfold gPut
  by_cases hc : gChk x = 0
  · obtain ⟨h1, h2, h3, h4, h5, h6⟩ := chk_zero ho hc
    rw [if_pos hc, hc]
    have hz := zK_len x.k
    have f := ho.f
    have q := ho.q
    have a := ho.a
    have hA := r10h x [] _ (by decide) 0 (by omega) x.f 1 (by omega) rfl rfl (lay_int (k := 1) f.1 (by omega) (by omega) (by omega))
    have hB := r10h x ([] ++ cBE 1 x.f.toNat) _ (by simp [cBE_len]) 1 (by omega) x.p 1 (by omega) rfl rfl (lay_int (k := 1) h2.1 (by omega) (by omega) (by omega))
    have hC := r10h x (([] ++ cBE 1 x.f.toNat) ++ cBE 1 x.p.toNat) _ (by simp [cBE_len]) 2 (by omega) x.e 2 (by omega) rfl rfl (lay_int (k := 2) h3.1 (by omega) (by omega) (by omega))
    have hD := r10h x ((([] ++ cBE 1 x.f.toNat) ++ cBE 1 x.p.toNat) ++ cBE 2 x.e.toNat) _ (by simp [cBE_len]) 3 (by omega) x.q 4 (by omega) rfl rfl (lay_int (k := 4) q.1 (by omega) (by omega) (by omega))
    have hE := r10h x (((([] ++ cBE 1 x.f.toNat) ++ cBE 1 x.p.toNat) ++ cBE 2 x.e.toNat) ++ cBE 4 x.q.toNat) _ (by simp [cBE_len]) 4 (by omega) x.a 4 (by omega) rfl rfl (lay_int (k := 4) a.1 (by omega) (by omega) (by omega))
    have hF := r10h x ((((([] ++ cBE 1 x.f.toNat) ++ cBE 1 x.p.toNat) ++ cBE 2 x.e.toNat) ++ cBE 4 x.q.toNat) ++ cBE 4 x.a.toNat) _ (by simp [cBE_len]) 5 (by omega) x.w 2 (by omega) rfl rfl (lay_int (k := 2) h4.1 (by omega) (by omega) (by omega))
    have hG := r10h x (((((([] ++ cBE 1 x.f.toNat) ++ cBE 1 x.p.toNat) ++ cBE 2 x.e.toNat) ++ cBE 4 x.q.toNat) ++ cBE 4 x.a.toNat) ++ cBE 2 x.w.toNat) _ (by simp [cBE_len]) 6 (by omega) x.k.length 1 (by omega) rfl rfl (lay_of (k := 1) (by omega) (by omega) (by omega))
    rw [← zH_bytes] at hG
    have hL := Loops.next hA (.next hB (.next hC (.next hD (.next hE (.next hF (.next hG (.out (q10h x _) (by simp))))))))
    have hzl : (bytesZ (zH x)).length = 15 := by rw [zH_bytes]; simp [cBE_len]
    have hp := put10y x ho hc h6 _ _ _ rfl (lay_of (k := 1) (by omega) (by omega) (by omega)) (by omega) (by simp; omega) (by simp [cBE_len]; omega) hL (l10k x h5 ho.k _ (by omega))
    have e1 : bytesZ (zT x) = cBE 1 x.t.length := by unfold zT bytesZ; simp
    have e : body x = bytesZ (zH x) ++ bytesZ (zK x.k) ++ cBE 1 x.t.length ++ x.t := by unfold body; rw [e1]
    rw [e]
    exact hp
  · rw [if_neg hc]
    exact put10n x ho hc
end Go.Proofs.Ytekhpiiediooiaa
