/-
laws 01: numbers that were laid are read back. No condition beyond the statement's own.
-/
import Derived.Test.YtnkdkdjifalmbaaS5
set_option linter.unusedSimpArgs false
set_option linter.unusedVariables false
namespace Go.Proofs.Ytnkdkdjifalmbaa
open Sx Go.RowKit

def IA (l wd : List Int) (b : List UInt8) (j : Nat) : St := ⟨[(0, .d (.sl (l.map (.int .u32)))), (1, .d (.sl (wd.map (.int .u8)))), (5, .d (.sl (b.map byteD))), (6, .d (.int .i64 j))], []⟩
theorem wid {w : Int} (h : 0 ≤ w) : IntKind.i64.wrap (4 + IntKind.i64.wrap (w.tmod 4)) = ((4 + w % 4).toNat : Int) := by
  rw [Int.tmod_eq_emod_of_nonneg h]; simp only [IntKind.wrap_i64]; omega
set_option maxRecDepth 100000 in
set_option maxHeartbeats 1000000 in
theorem rA (l wd : List Int) (hl : l.length ≤ 40) (b b' : List UInt8) (hb : b.length < 1000) (j : Nat) (n w : Int) (hn : l[j]? = some n) (hw : wd[j]? = some w) (n0 : 0 ≤ n) (n1 : n < 4294967296) (w0 : 0 ≤ w) (w1 : w < 256) (hb' : cLay b (n.toNat : Int) ((4 + w % 4).toNat : Int) = b') : Runs Try.prog 0 (loopN Try.prog 5 0) (St.as (IA l wd b j) 146) (.normal) (St.as (IA l wd b' (j+1)) 146) := by
  refine round_wp (p := condP (decide ((↑j : Int) < (↑(List.map (D.int IntKind.u32) l).length : Int))) (((0 : Int) ≤ (↑j : Int)) ∧ (((List.map (D.int IntKind.u32) l)[(↑j : Int).toNat]? = some (D.int IntKind.u32 n)) ∧ (((0 : Int) ≤ (↑j : Int)) ∧ (((List.map (D.int IntKind.u8) wd)[(↑j : Int).toNat]? = some (D.int IntKind.u8 w)) ∧ (((4 : Int) ≠ (0 : Int)) ∧ ((FnOK Try.prog (22 : Nat) [AV.d (D.sl (List.map byteD b)), AV.d (D.int IntKind.i64 (IntKind.i64.wrap n)), AV.d (D.int IntKind.i64 (IntKind.i64.wrap ((4 : Int) + IntKind.i64.wrap (w.tmod (4 : Int)))))] [] (AV.d (D.sl (List.map byteD b'))) []) ∧ ((AV.d (D.sl (List.map (D.int IntKind.u32) l)) = AV.d (D.sl (List.map (D.int IntKind.u32) l))) ∧ ((AV.d (D.sl (List.map (D.int IntKind.u8) wd)) = AV.d (D.sl (List.map (D.int IntKind.u8) wd))) ∧ ((AV.d (D.sl (List.map byteD b')) = AV.d (D.sl (List.map byteD b'))) ∧ ((AV.d (D.int IntKind.i64 (IntKind.i64.wrap ((↑j : Int) + (1 : Int)))) = AV.d (D.int IntKind.i64 (↑(j + (1 : Nat)) : Int))) ∧ (True))))))))))) (False)) (h := {H := [(7, [(13, .call [] (.d (.sl (b'.map byteD))) [])])], els := [(32, .el (.int .u32 n)), (37, .el (.int .u8 w))]}) (subs := []) (ws := []) (ρ := []) (by kernel_rfl) ?_
  have hj : j < l.length := (List.getElem?_eq_some_iff.1 hn).1
  have hv : IntKind.i64.wrap ((j : Int) + 1) = ((j + 1 : Nat) : Int) := by rw [IntKind.wrap_i64]; omega
  have hn2 : IntKind.i64.wrap n = (n.toNat : Int) := by rw [IntKind.wrap_i64]; omega
  have h1 := lay22 b (by omega) (n.toNat : Int) ((4 + w % 4).toNat : Int)
  rw [hb'] at h1
  rw [hv]
  refine condP_t (by rw [decide_eq_true_eq, List.length_map]; omega) ?_
  repeat' (first | with_reducible exact True.intro | with_reducible refine And.intro ?_ ?_ | with_reducible refine condP_dec (fun _ => ?_) (fun _ => ?_) | with_reducible refine condP_eq (fun _ => ?_) (fun _ => ?_) | with_reducible refine condP_ne (fun _ => ?_) (fun _ => ?_) | with_reducible refine condP_not (condP_dec (fun _ => ?_) (fun _ => ?_)) | with_reducible refine condP_not (condP_eq (fun _ => ?_) (fun _ => ?_)) | with_reducible refine condP_not (condP_intro (fun _ => ?_) (fun _ => ?_)) | with_reducible refine condP_intro (fun _ => ?_) (fun _ => ?_))
  all_goals first | exact el_map hn rfl | exact el_map hw rfl | (rw [wid w0, hn2]; exact h1) | rfl | omega | skip

set_option maxRecDepth 100000 in
set_option maxHeartbeats 1000000 in
theorem qA (l wd : List Int) (b : List UInt8) : Runs Try.prog 0 (loopN Try.prog 5 0) (St.as (IA l wd b l.length) 146) (.exit 0) (St.as (IA l wd b l.length) 146) := by
  refine round_wp (p := condP (decide ((↑l.length : Int) < (↑(List.map (D.int IntKind.u32) l).length : Int))) (False) ((AV.d (D.sl (List.map (D.int IntKind.u32) l)) = AV.d (D.sl (List.map (D.int IntKind.u32) l))) ∧ ((AV.d (D.sl (List.map (D.int IntKind.u8) wd)) = AV.d (D.sl (List.map (D.int IntKind.u8) wd))) ∧ ((AV.d (D.sl (List.map byteD b)) = AV.d (D.sl (List.map byteD b))) ∧ ((AV.d (D.int IntKind.i64 (↑l.length : Int)) = AV.d (D.int IntKind.i64 (↑l.length : Int))) ∧ (True)))))) (h := {}) (subs := []) (ws := []) (ρ := []) (by kernel_rfl) ?_
  repeat' (first | with_reducible exact True.intro | with_reducible refine And.intro ?_ ?_ | with_reducible refine condP_dec (fun _ => ?_) (fun _ => ?_) | with_reducible refine condP_eq (fun _ => ?_) (fun _ => ?_) | with_reducible refine condP_ne (fun _ => ?_) (fun _ => ?_) | with_reducible refine condP_not (condP_dec (fun _ => ?_) (fun _ => ?_)) | with_reducible refine condP_not (condP_eq (fun _ => ?_) (fun _ => ?_)) | with_reducible refine condP_not (condP_intro (fun _ => ?_) (fun _ => ?_)) | with_reducible refine condP_intro (fun _ => ?_) (fun _ => ?_))
  all_goals (try simp only [List.length_map, AV.d.injEq, D.int.injEq, D.bool.injEq, D.str.injEq, D.sl.injEq, true_and, and_true, decide_eq_true_eq, decide_eq_false_iff_not, decide_eq_decide])
  all_goals (try simp only [List.length_map] at *)
  all_goals first | rfl | omega

def IB (l wd : List Int) (b : List UInt8) (c : Cur) (j : Nat) : St := ⟨[(0, .d (.sl (l.map (.int .u32)))), (1, .d (.sl (wd.map (.int .u8)))), (5, .d (.sl (b.map byteD))), (7, .ptr 1 0), (8, .d (.int .i64 j))], [(1, cB c)]⟩
set_option maxRecDepth 100000 in
set_option maxHeartbeats 1000000 in
theorem rB (l wd : List Int) (hl : l.length ≤ 40) (b : List UInt8) (c c' : Cur) (hc : c.d.length < 1000) (j : Nat) (n w : Int) (hn : l[j]? = some n) (hw : wd[j]? = some w) (n0 : 0 ≤ n) (n1 : n < 4294967296) (w0 : 0 ≤ w) (w1 : w < 256) (hc' : cNumC c ((4 + w % 4).toNat : Int) = c') (hN : cNumN c ((4 + w % 4).toNat : Int) = (n.toNat : Int)) (hk : c'.b = 0) : Runs Try.prog 0 (loopN Try.prog 5 1) (St.as (IB l wd b c j) 146) (.normal) (St.as (IB l wd b c' (j+1)) 146) := by
  refine round_wp (p := condP (decide ((↑j : Int) < (↑(List.map (D.int IntKind.u32) l).length : Int))) (((0 : Int) ≤ (↑j : Int)) ∧ (((List.map (D.int IntKind.u8) wd)[(↑j : Int).toNat]? = some (D.int IntKind.u8 w)) ∧ (((4 : Int) ≠ (0 : Int)) ∧ ((FnOK Try.prog (9 : Nat) [AV.d (D.agg [D.str c.d, D.int IntKind.i64 c.i, D.int IntKind.i64 c.b]), AV.d (D.int IntKind.i64 (IntKind.i64.wrap ((4 : Int) + IntKind.i64.wrap (w.tmod (4 : Int)))))] [] (AV.tup [AV.d (D.agg [D.str c'.d, D.int IntKind.i64 c'.i, D.int IntKind.i64 c'.b]), AV.d (D.int IntKind.i64 (↑n.toNat : Int))]) []) ∧ (((0 : Int) ≤ (↑j : Int)) ∧ (((List.map (D.int IntKind.u32) l)[(↑j : Int).toNat]? = some (D.int IntKind.u32 n)) ∧ ((D.bool ((↑n.toNat : Int) != IntKind.i64.wrap n) = D.bool false) ∧ (condP (c'.b != (0 : Int)) (False) ((AV.d (D.sl (List.map (D.int IntKind.u32) l)) = AV.d (D.sl (List.map (D.int IntKind.u32) l))) ∧ ((AV.d (D.sl (List.map (D.int IntKind.u8) wd)) = AV.d (D.sl (List.map (D.int IntKind.u8) wd))) ∧ ((AV.d (D.sl (List.map byteD b)) = AV.d (D.sl (List.map byteD b))) ∧ ((AV.ptr (1 : Nat) (0 : Nat) = AV.ptr (1 : Nat) (0 : Nat)) ∧ ((AV.d (D.int IntKind.i64 (IntKind.i64.wrap ((↑j : Int) + (1 : Int)))) = AV.d (D.int IntKind.i64 (↑(j + (1 : Nat)) : Int))) ∧ ((Ob.box [AV.d (D.str c'.d), AV.d (D.int IntKind.i64 c'.i), AV.d (D.int IntKind.i64 c'.b)] = Ob.box [AV.d (D.str c'.d), AV.d (D.int IntKind.i64 c'.i), AV.d (D.int IntKind.i64 c'.b)]) ∧ (True))))))))))))))) (False)) (h := {H := [(12, [(8, .call [] (.tup [.d (cD c'), .d (.int .i64 (n.toNat : Int))]) [])])], els := [(56, .el (.int .u8 w)), (67, .el (.int .u32 n))], chain := true}) (subs := []) (ws := []) (ρ := []) (by kernel_rfl) ?_
  have hj : j < l.length := (List.getElem?_eq_some_iff.1 hn).1
  have hv : IntKind.i64.wrap ((j : Int) + 1) = ((j + 1 : Nat) : Int) := by rw [IntKind.wrap_i64]; omega
  have hn2 : IntKind.i64.wrap n = (n.toNat : Int) := by rw [IntKind.wrap_i64]; omega
  have h1 := number9' c (by omega) ((4 + w % 4).toNat : Int)
  unfold numA at h1
  rw [hc', hN] at h1
  rw [hv]
  refine condP_t (by rw [decide_eq_true_eq, List.length_map]; omega) ?_
  repeat' (first | with_reducible exact True.intro | with_reducible refine And.intro ?_ ?_ | with_reducible refine condP_dec (fun _ => ?_) (fun _ => ?_) | with_reducible refine condP_eq (fun _ => ?_) (fun _ => ?_) | with_reducible refine condP_ne (fun _ => ?_) (fun _ => ?_) | with_reducible refine condP_not (condP_dec (fun _ => ?_) (fun _ => ?_)) | with_reducible refine condP_not (condP_eq (fun _ => ?_) (fun _ => ?_)) | with_reducible refine condP_not (condP_intro (fun _ => ?_) (fun _ => ?_)) | with_reducible refine condP_intro (fun _ => ?_) (fun _ => ?_))
  all_goals first | exact el_map hn rfl | exact el_map hw rfl | (rw [wid w0]; exact h1) | rfl | omega | (rw [hn2]; simp; done) | (exfalso; simp_all; done) | skip

set_option maxRecDepth 100000 in
set_option maxHeartbeats 1000000 in
theorem qB (l wd : List Int) (b : List UInt8) (c : Cur) : Runs Try.prog 0 (loopN Try.prog 5 1) (St.as (IB l wd b c l.length) 146) (.exit 2) (St.as (IB l wd b c l.length) 146) := by
  refine round_wp (p := condP (decide ((↑l.length : Int) < (↑(List.map (D.int IntKind.u32) l).length : Int))) (False) ((AV.d (D.sl (List.map (D.int IntKind.u32) l)) = AV.d (D.sl (List.map (D.int IntKind.u32) l))) ∧ ((AV.d (D.sl (List.map (D.int IntKind.u8) wd)) = AV.d (D.sl (List.map (D.int IntKind.u8) wd))) ∧ ((AV.d (D.sl (List.map byteD b)) = AV.d (D.sl (List.map byteD b))) ∧ ((AV.ptr (1 : Nat) (0 : Nat) = AV.ptr (1 : Nat) (0 : Nat)) ∧ ((AV.d (D.int IntKind.i64 (↑l.length : Int)) = AV.d (D.int IntKind.i64 (↑l.length : Int))) ∧ ((Ob.box [AV.d (D.str c.d), AV.d (D.int IntKind.i64 c.i), AV.d (D.int IntKind.i64 c.b)] = Ob.box [AV.d (D.str c.d), AV.d (D.int IntKind.i64 c.i), AV.d (D.int IntKind.i64 c.b)]) ∧ (True)))))))) (h := {}) (subs := []) (ws := []) (ρ := []) (by kernel_rfl) ?_
  repeat' (first | with_reducible exact True.intro | with_reducible refine And.intro ?_ ?_ | with_reducible refine condP_dec (fun _ => ?_) (fun _ => ?_) | with_reducible refine condP_eq (fun _ => ?_) (fun _ => ?_) | with_reducible refine condP_ne (fun _ => ?_) (fun _ => ?_) | with_reducible refine condP_not (condP_dec (fun _ => ?_) (fun _ => ?_)) | with_reducible refine condP_not (condP_eq (fun _ => ?_) (fun _ => ?_)) | with_reducible refine condP_not (condP_intro (fun _ => ?_) (fun _ => ?_)) | with_reducible refine condP_intro (fun _ => ?_) (fun _ => ?_))
  all_goals (try simp only [List.length_map, AV.d.injEq, D.int.injEq, D.bool.injEq, D.str.injEq, D.sl.injEq, true_and, and_true, decide_eq_true_eq, decide_eq_false_iff_not, decide_eq_decide])
  all_goals (try simp only [List.length_map] at *)
  all_goals first | rfl | omega

def IC (l wd : List Int) (c : Cur) (j : Nat) : St := ⟨[(0, .d (.sl (l.map (.int .u32)))), (1, .d (.sl (wd.map (.int .u8)))), (7, .ptr 1 0), (11, .d (.int .i64 j))], [(1, cB c)]⟩
set_option maxRecDepth 100000 in
set_option maxHeartbeats 1000000 in
theorem rC (l wd : List Int) (hl : l.length ≤ 40) (c c' : Cur) (hc : c.d.length < 1000) (j : Nat) (w : Int) (hj : j < l.length) (hw : wd[j]? = some w) (w0 : 0 ≤ w) (w1 : w < 256) (hc' : cNumC c ((4 + w % 4).toNat : Int) = c') : Runs Try.prog 0 (loopN Try.prog 5 2) (St.as (IC l wd c j) 146) (.normal) (St.as (IC l wd c' (j+1)) 146) := by
  refine round_wp (p := condP (decide ((↑j : Int) < (↑(List.map (D.int IntKind.u32) l).length : Int))) (((0 : Int) ≤ (↑j : Int)) ∧ (((List.map (D.int IntKind.u8) wd)[(↑j : Int).toNat]? = some (D.int IntKind.u8 w)) ∧ (((4 : Int) ≠ (0 : Int)) ∧ ((FnOK Try.prog (9 : Nat) [AV.d (D.agg [D.str c.d, D.int IntKind.i64 c.i, D.int IntKind.i64 c.b]), AV.d (D.int IntKind.i64 (IntKind.i64.wrap ((4 : Int) + IntKind.i64.wrap (w.tmod (4 : Int)))))] [] (AV.tup [AV.d (D.agg [D.str c'.d, D.int IntKind.i64 c'.i, D.int IntKind.i64 c'.b]), AV.d (D.int IntKind.i64 (cNumN c (↑((4 : Int) + w % (4 : Int)).toNat : Int)))]) []) ∧ ((AV.d (D.sl (List.map (D.int IntKind.u32) l)) = AV.d (D.sl (List.map (D.int IntKind.u32) l))) ∧ ((AV.d (D.sl (List.map (D.int IntKind.u8) wd)) = AV.d (D.sl (List.map (D.int IntKind.u8) wd))) ∧ ((AV.ptr (1 : Nat) (0 : Nat) = AV.ptr (1 : Nat) (0 : Nat)) ∧ ((AV.d (D.int IntKind.i64 (IntKind.i64.wrap ((↑j : Int) + (1 : Int)))) = AV.d (D.int IntKind.i64 (↑(j + (1 : Nat)) : Int))) ∧ ((Ob.box [AV.d (D.str c'.d), AV.d (D.int IntKind.i64 c'.i), AV.d (D.int IntKind.i64 c'.b)] = Ob.box [AV.d (D.str c'.d), AV.d (D.int IntKind.i64 c'.i), AV.d (D.int IntKind.i64 c'.b)]) ∧ (True)))))))))) (False)) (h := {H := [(24, [(8, .call [] (.tup [.d (cD c'), .d (.int .i64 (cNumN c ((4 + w % 4).toNat : Int)))]) [])])], els := [(111, .el (.int .u8 w))], chain := true}) (subs := []) (ws := []) (ρ := []) (by kernel_rfl) ?_
  have hv : IntKind.i64.wrap ((j : Int) + 1) = ((j + 1 : Nat) : Int) := by rw [IntKind.wrap_i64]; omega
  have h1 := number9' c (by omega) ((4 + w % 4).toNat : Int)
  unfold numA at h1
  rw [hc'] at h1
  rw [hv]
  refine condP_t (by rw [decide_eq_true_eq, List.length_map]; omega) ?_
  repeat' (first | with_reducible exact True.intro | with_reducible refine And.intro ?_ ?_ | with_reducible refine condP_dec (fun _ => ?_) (fun _ => ?_) | with_reducible refine condP_eq (fun _ => ?_) (fun _ => ?_) | with_reducible refine condP_ne (fun _ => ?_) (fun _ => ?_) | with_reducible refine condP_not (condP_dec (fun _ => ?_) (fun _ => ?_)) | with_reducible refine condP_not (condP_eq (fun _ => ?_) (fun _ => ?_)) | with_reducible refine condP_not (condP_intro (fun _ => ?_) (fun _ => ?_)) | with_reducible refine condP_intro (fun _ => ?_) (fun _ => ?_))
  all_goals first | exact el_map hw rfl | (rw [wid w0]; exact h1) | rfl | omega | skip

set_option maxRecDepth 100000 in
set_option maxHeartbeats 1000000 in
theorem qC (l wd : List Int) (c : Cur) : Runs Try.prog 0 (loopN Try.prog 5 2) (St.as (IC l wd c l.length) 146) (.exit 4) (St.as (IC l wd c l.length) 146) := by
  refine round_wp (p := condP (decide ((↑l.length : Int) < (↑(List.map (D.int IntKind.u32) l).length : Int))) (False) ((AV.d (D.sl (List.map (D.int IntKind.u32) l)) = AV.d (D.sl (List.map (D.int IntKind.u32) l))) ∧ ((AV.d (D.sl (List.map (D.int IntKind.u8) wd)) = AV.d (D.sl (List.map (D.int IntKind.u8) wd))) ∧ ((AV.ptr (1 : Nat) (0 : Nat) = AV.ptr (1 : Nat) (0 : Nat)) ∧ ((AV.d (D.int IntKind.i64 (↑l.length : Int)) = AV.d (D.int IntKind.i64 (↑l.length : Int))) ∧ ((Ob.box [AV.d (D.str c.d), AV.d (D.int IntKind.i64 c.i), AV.d (D.int IntKind.i64 c.b)] = Ob.box [AV.d (D.str c.d), AV.d (D.int IntKind.i64 c.i), AV.d (D.int IntKind.i64 c.b)]) ∧ (True))))))) (h := {}) (subs := []) (ws := []) (ρ := []) (by kernel_rfl) ?_
  repeat' (first | with_reducible exact True.intro | with_reducible refine And.intro ?_ ?_ | with_reducible refine condP_dec (fun _ => ?_) (fun _ => ?_) | with_reducible refine condP_eq (fun _ => ?_) (fun _ => ?_) | with_reducible refine condP_ne (fun _ => ?_) (fun _ => ?_) | with_reducible refine condP_not (condP_dec (fun _ => ?_) (fun _ => ?_)) | with_reducible refine condP_not (condP_eq (fun _ => ?_) (fun _ => ?_)) | with_reducible refine condP_not (condP_intro (fun _ => ?_) (fun _ => ?_)) | with_reducible refine condP_intro (fun _ => ?_) (fun _ => ?_))
  all_goals (try simp only [List.length_map, AV.d.injEq, D.int.injEq, D.bool.injEq, D.str.injEq, D.sl.injEq, true_and, and_true, decide_eq_true_eq, decide_eq_false_iff_not, decide_eq_decide])
  all_goals (try simp only [List.length_map] at *)
  all_goals first | rfl | omega

theorem at_zero (z : List (Nat × Nat)) : atZ z 0 = cOpen (bytesZ z) := by simp [atZ, cOpen, lenZ]
theorem at_get {l wd : List Int} (h : l.length ≤ wd.length) {j : Nat} (hj : j < l.length) : (zz l wd)[j]? = some ((l[j]).toNat, (4 + wd[j] % 4).toNat) := zz_at (List.getElem?_eq_getElem hj) (List.getElem?_eq_getElem (by omega))
theorem take_small {z : List (Nat × Nat)} (hz : okZ z) (h : z.length ≤ 40) (j : Nat) : (bytesZ (z.take j)).length < 1000 := by
  have h1 := lenZ_split z j
  have h2 := lenZ_le z hz
  rw [bytesZ_len]; omega
theorem lA (l wd : List Int) (hl : l.length ≤ 40) (hw : l.length ≤ wd.length) (bl : ∀ n ∈ l, 0 ≤ n ∧ n < 4294967296) (bw : ∀ n ∈ wd, 0 ≤ n ∧ n < 256) : Loops Try.prog 0 (loopN Try.prog 5 0) ((IA l wd [] 0).as 146) (.exit 0) ((IA l wd (bytesZ (zz l wd)) l.length).as 146) := by
  have hz : okZ (zz l wd) := zz_ok bl
  have hL := zz_len hw
  have e0 : [] = bytesZ ((zz l wd).take 0) := by simp [bytesZ]
  have e1 : bytesZ (zz l wd) = bytesZ ((zz l wd).take l.length) := by rw [← hL, List.take_length]
  rw [e0, e1]
  refine loops_n (I := fun j => (IA l wd (bytesZ ((zz l wd).take j)) j).as 146) (by simp) l.length 0 (by omega) (fun j _ hj => ?_) (qA l wd _)
  have g1 := bl l[j] (List.getElem_mem hj)
  have g2 := bw (wd[j]'(by omega)) (List.getElem_mem (by omega))
  exact rA l wd hl _ _ (take_small hz (by omega) j) j l[j] (wd[j]'(by omega)) (List.getElem?_eq_getElem hj) (List.getElem?_eq_getElem (by omega)) g1.1 g1.2 g2.1 g2.2 (layZ hz (at_get hw hj))
theorem lB (l wd : List Int) (hl : l.length ≤ 40) (hw : l.length ≤ wd.length) (bl : ∀ n ∈ l, 0 ≤ n ∧ n < 4294967296) (bw : ∀ n ∈ wd, 0 ≤ n ∧ n < 256) : Loops Try.prog 0 (loopN Try.prog 5 1) ((IB l wd (bytesZ (zz l wd)) (cOpen (bytesZ (zz l wd))) 0).as 146) (.exit 2) ((IB l wd (bytesZ (zz l wd)) (atZ (zz l wd) l.length) l.length).as 146) := by
  have hz : okZ (zz l wd) := zz_ok bl
  have hL := zz_len hw
  rw [← at_zero]
  refine loops_n (I := fun j => (IB l wd (bytesZ (zz l wd)) (atZ (zz l wd) j) j).as 146) (by simp) l.length 0 (by omega) (fun j _ hj => ?_) (qB l wd _ _)
  have g1 := bl l[j] (List.getElem_mem hj)
  have g2 := bw (wd[j]'(by omega)) (List.getElem_mem (by omega))
  have hr := readZ hz (at_get hw hj)
  have hs := take_small hz (by omega) (zz l wd).length
  rw [List.take_length] at hs
  exact rB l wd hl _ _ _ hs j l[j] (wd[j]'(by omega)) (List.getElem?_eq_getElem hj) (List.getElem?_eq_getElem (by omega)) g1.1 g1.2 g2.1 g2.2 hr.1 hr.2 rfl
theorem lC (l wd : List Int) (hl : l.length ≤ 40) (hw : l.length ≤ wd.length) (bw : ∀ n ∈ wd, 0 ≤ n ∧ n < 256) (B : List UInt8) (hB : B.length < 1000) : Loops Try.prog 0 (loopN Try.prog 5 2) ((IC l wd (cOpen B) 0).as 146) (.exit 4) ((IC l wd (rdZ B (zz l wd) l.length) l.length).as 146) := by
  have e0 : cOpen B = rdZ B (zz l wd) 0 := by simp [rdZ]
  rw [e0]
  refine loops_n (I := fun j => (IC l wd (rdZ B (zz l wd) j) j).as 146) (by simp) l.length 0 (by omega) (fun j _ hj => ?_) (qC l wd _)
  have g2 := bw (wd[j]'(by omega)) (List.getElem_mem (by omega))
  exact rC l wd hl _ _ (by rw [rdZ_d]; exact hB) j (wd[j]'(by omega)) hj (List.getElem?_eq_getElem (by omega)) g2.1 g2.2 (rd_succ (at_get hw hj)).symm
set_option maxRecDepth 100000 in
set_option maxHeartbeats 1000000 in
theorem back5 (l wd : List Int) (bl : ∀ n ∈ l, 0 ≤ n ∧ n < 4294967296) (bw : ∀ n ∈ wd, 0 ≤ n ∧ n < 256) (B B' : List UInt8) (hB : bytesZ (zz l wd) = B) (hB' : B.take (B.length - 1) = B') (c1 c2 : Cur) (h1 : atZ (zz l wd) l.length = c1) (h2 : rdZ B' (zz l wd) l.length = c2) : FnOK Try.prog 5 ([.d (.sl (l.map (.int .u32))), .d (.sl (wd.map (.int .u8)))]) ([]) (.d (.bool true)) ([]) := by
  refine fnOK_wp (p := condP (decide ((↑(List.map (D.int IntKind.u32) l).length : Int) > (40 : Int))) ((D.bool (decide ((↑(List.map (D.int IntKind.u32) l).length : Int) > (40 : Int))) = D.bool true) ∧ ((FnOK Try.prog (7 : Nat) [] [] (AV.d (D.bool true)) []) ∧ ((AV.d (D.bool true) = AV.d (D.bool true)) ∧ (True)))) ((D.bool (decide ((↑(List.map (D.int IntKind.u32) l).length : Int) > (40 : Int))) = D.bool false) ∧ (condP (decide ((↑(List.map (D.int IntKind.u8) wd).length : Int) < (↑(List.map (D.int IntKind.u32) l).length : Int))) ((FnOK Try.prog (7 : Nat) [] [] (AV.d (D.bool true)) []) ∧ ((AV.d (D.bool true) = AV.d (D.bool true)) ∧ (True))) ((AV.d (D.sl (List.map (D.int IntKind.u32) l)) = AV.d (D.sl (List.map (D.int IntKind.u32) l))) ∧ ((AV.d (D.sl (List.map (D.int IntKind.u8) wd)) = AV.d (D.sl (List.map (D.int IntKind.u8) wd))) ∧ ((AV.d (D.sl []) = AV.d (D.sl [])) ∧ ((AV.d (D.int IntKind.i64 (0 : Int)) = AV.d (D.int IntKind.i64 (0 : Int))) ∧ ((LoopsS Try.prog (0 : Nat) (loopN Try.prog (5 : Nat) (0 : Nat)) (IA l wd [] (0 : Nat)) (Exit.exit (0 : Nat)) (IA l wd B l.length) (146 : Nat)) ∧ ((List.map byteD B = List.map byteD B) ∧ ((FnOK Try.prog (20 : Nat) [AV.d (D.str B)] [] (AV.d (D.agg [D.str (cOpen B).d, D.int IntKind.i64 (cOpen B).i, D.int IntKind.i64 (cOpen B).b])) []) ∧ ((AV.d (D.sl (List.map (D.int IntKind.u32) l)) = AV.d (D.sl (List.map (D.int IntKind.u32) l))) ∧ ((AV.d (D.sl (List.map (D.int IntKind.u8) wd)) = AV.d (D.sl (List.map (D.int IntKind.u8) wd))) ∧ ((AV.d (D.sl (List.map byteD B)) = AV.d (D.sl (List.map byteD B))) ∧ ((AV.ptr (1056 : Nat) (0 : Nat) = AV.ptr (1056 : Nat) (0 : Nat)) ∧ ((AV.d (D.int IntKind.i64 (0 : Int)) = AV.d (D.int IntKind.i64 (0 : Int))) ∧ ((Ob.box [AV.d (D.str (cOpen B).d), AV.d (D.int IntKind.i64 (cOpen B).i), AV.d (D.int IntKind.i64 (cOpen B).b)] = Ob.box [AV.d (D.str (cOpen B).d), AV.d (D.int IntKind.i64 (cOpen B).i), AV.d (D.int IntKind.i64 (cOpen B).b)]) ∧ ((LoopsS Try.prog (0 : Nat) (loopN Try.prog (5 : Nat) (1 : Nat)) (IB l wd B (cOpen B) (0 : Nat)) (Exit.exit (2 : Nat)) (IB l wd B c1 l.length) (146 : Nat)) ∧ ((FnOK Try.prog (18 : Nat) [AV.d (D.agg [D.str c1.d, D.int IntKind.i64 c1.i, D.int IntKind.i64 c1.b])] [] (AV.d (D.int IntKind.i64 (0 : Int))) []) ∧ ((D.bool false = D.bool false) ∧ (condP ((↑(List.map (D.int IntKind.u32) l).length : Int) == (0 : Int)) ((D.bool ((↑(List.map (D.int IntKind.u32) l).length : Int) == (0 : Int)) = D.bool true) ∧ ((FnOK Try.prog (7 : Nat) [] [] (AV.d (D.bool true)) []) ∧ ((AV.d (D.bool true) = AV.d (D.bool true)) ∧ (True)))) (condP ((↑(List.map byteD B).length : Int) == (0 : Int)) ((AV.d (D.bool false) = AV.d (D.bool true)) ∧ (True)) (((0 : Int) ≤ (0 : Int) ∧ (0 : Int) ≤ IntKind.i64.wrap ((↑(List.map byteD B).length : Int) - (1 : Int)) ∧ IntKind.i64.wrap ((↑(List.map byteD B).length : Int) - (1 : Int)) ≤ (↑(List.map byteD B).length : Int)) ∧ ((∀ (e : D), e ∈ List.map byteD B → e.cells.length = (1 : Nat)) ∧ ((List.drop (0 : Nat) (List.take (IntKind.i64.wrap ((↑(List.map byteD B).length : Int) - (1 : Int))).toNat (List.map byteD B)) = List.map byteD B') ∧ ((FnOK Try.prog (20 : Nat) [AV.d (D.str B')] [] (AV.d (D.agg [D.str (cOpen B').d, D.int IntKind.i64 (cOpen B').i, D.int IntKind.i64 (cOpen B').b])) []) ∧ ((AV.d (D.sl (List.map (D.int IntKind.u32) l)) = AV.d (D.sl (List.map (D.int IntKind.u32) l))) ∧ ((AV.d (D.sl (List.map (D.int IntKind.u8) wd)) = AV.d (D.sl (List.map (D.int IntKind.u8) wd))) ∧ ((AV.ptr (1 : Nat) (0 : Nat) = AV.ptr (1 : Nat) (0 : Nat)) ∧ ((AV.d (D.int IntKind.i64 (0 : Int)) = AV.d (D.int IntKind.i64 (0 : Int))) ∧ ((Ob.box [AV.d (D.str (cOpen B').d), AV.d (D.int IntKind.i64 (cOpen B').i), AV.d (D.int IntKind.i64 (cOpen B').b)] = Ob.box [AV.d (D.str (cOpen B').d), AV.d (D.int IntKind.i64 (cOpen B').i), AV.d (D.int IntKind.i64 (cOpen B').b)]) ∧ ((LoopsS Try.prog (0 : Nat) (loopN Try.prog (5 : Nat) (2 : Nat)) (IC l wd (cOpen B') (0 : Nat)) (Exit.exit (4 : Nat)) (IC l wd c2 l.length) (146 : Nat)) ∧ ((FnOK Try.prog (11 : Nat) [AV.d (D.agg [D.str c2.d, D.int IntKind.i64 c2.i, D.int IntKind.i64 c2.b]), AV.d (D.int IntKind.i64 (0 : Int))] [] (AV.tup [AV.d (D.agg [D.str c2.d, D.int IntKind.i64 c2.i, D.int IntKind.i64 c2.b]), AV.d (D.str [])]) []) ∧ ((D.bool (c2.b == (3 : Int)) = D.bool true) ∧ ((D.bool (c2.d == c2.d && (c2.i == c2.i && (c2.b == c2.b && true))) = D.bool true) ∧ ((D.bool true = D.bool true) ∧ ((FnOK Try.prog (18 : Nat) [AV.d (D.agg [D.str c2.d, D.int IntKind.i64 c2.i, D.int IntKind.i64 c2.b])] [] (AV.d (D.int IntKind.i64 (cDone c2))) []) ∧ ((D.bool (cDone c2 == (3 : Int)) = D.bool true) ∧ ((FnOK Try.prog (7 : Nat) [] [] (AV.d (D.bool true)) []) ∧ ((AV.d (D.bool true) = AV.d (D.bool true)) ∧ (True)))))))))))))))))))))))))))))))))))))))) (h := {G := G2, H := [(16, [(1, .call [] (.d (.int .i64 0)) [])]), (25, [(1, .call [] (.tup [.d (cD c2), .d (.str [])]) [])])], els := [(45, .str B), (100, .str B')], chain := true, free := [1]}) (subs := [⟨[], [], IA l wd [] 0, .exit 0, IA l wd B l.length⟩, ⟨[], [], IB l wd B (cOpen B) 0, .exit 2, IB l wd B c1 l.length⟩, ⟨[], [], IC l wd (cOpen B') 0, .exit 4, IC l wd c2 l.length⟩]) (ws := []) (ρ := []) (by kernel_rfl) ?_
  refine condP_dec (fun h => ⟨dyes h, aw7, rfl, trivial⟩) (fun h => ⟨dno h, condP_dec (fun g => ⟨aw7, rfl, trivial⟩) (fun g => ?_)⟩)
  rw [List.length_map] at h
  rw [List.length_map, List.length_map] at g
  have hl : l.length ≤ 40 := by omega
  have hw : l.length ≤ wd.length := by omega
  have hz : okZ (zz l wd) := zz_ok bl
  have hL := zz_len hw
  have hbl : B.length < 1000 := by
    have h := take_small hz (by omega) (zz l wd).length
    rw [List.take_length, hB] at h; exact h
  have hbl' : B'.length < 1000 := by rw [← hB', List.length_take]; omega
  have kA := lA l wd hl hw bl bw
  have kB := lB l wd hl hw bl bw
  have kC := lC l wd hl hw bw B' hbl'
  rw [hB] at kA
  rw [hB, h1] at kB
  rw [h2] at kC
  have hd1 : c1.d = B := by rw [← h1, ← hB]; rfl
  have hd2 : c2.d = B' := by rw [← h2, rdZ_d]
  have q1 := done18 c1 (by rw [hd1]; omega)
  have qd : cDone c1 = 0 := by rw [← h1, ← hL]; exact at_done _
  rw [qd] at q1
  have hbL : B.length = lenZ (zz l wd) := by rw [← hB, bytesZ_len]
  have hne : l.length ≠ 0 → 0 < B.length ∧ c2.b = 3 := by
    intro hn
    have p0 : 0 < (zz l wd).length := by omega
    have p1 := rdZ_cut hz p0
    have p2 := (rdZ_at hz 0 p0).2
    rw [hB, ← hbL, hB', hL, h2] at p1
    exact ⟨by omega, p1⟩
  have hwr : B.length ≠ 0 → IntKind.i64.wrap ((B.length : Int) - 1) = ((B.length - 1 : Nat) : Int) := by intro hn; rw [IntKind.wrap_i64]; omega
  have hel : ∀ e : D, e ∈ List.map byteD B → e.cells.length = 1 := by intro e he; obtain ⟨c, -, rfl⟩ := List.mem_map.1 he; rfl
  have q2 := done18 c2 (by rw [hd2]; omega)
  have q3 := take11 c2 (by rw [hd2]; omega) 0
  unfold tkA at q3
  simp only [List.length_map]
  repeat' (first | with_reducible exact True.intro | with_reducible refine And.intro ?_ ?_ | with_reducible refine condP_dec (fun _ => ?_) (fun _ => ?_) | with_reducible refine condP_eq (fun _ => ?_) (fun _ => ?_) | with_reducible refine condP_ne (fun _ => ?_) (fun _ => ?_) | with_reducible refine condP_not (condP_dec (fun _ => ?_) (fun _ => ?_)) | with_reducible refine condP_not (condP_eq (fun _ => ?_) (fun _ => ?_)) | with_reducible refine condP_not (condP_intro (fun _ => ?_) (fun _ => ?_)) | with_reducible refine condP_intro (fun _ => ?_) (fun _ => ?_))
  all_goals first | exact aw7 | exact hel | ((have h0 : B.length ≠ 0 := (by omega)); rw [hwr h0]; omega) | ((have h0 : B.length ≠ 0 := (by omega)); rw [hwr h0, Int.toNat_natCast, List.drop_zero, ← List.map_take, hB']) | (exfalso; (have h0 := hne (by omega)); omega) | ((have h0 := (hne (by omega)).2); (have h1 : c2.b ≠ 0 := (by omega)); rw [(take_bad h1).1, (take_bad h1).2] at q3; exact q3) | ((have h0 := (hne (by omega)).2); (have h1 : c2.b ≠ 0 := (by omega)); (exact q2)) | ((have h0 := (hne (by omega)).2); (have h1 : c2.b ≠ 0 := (by omega)); rw [done_bad h1, h0]; rfl) | exact Int.le_refl 0  | exact kA | exact kB | exact kC | exact open20 _ | exact q1 | rfl | (refine congrArg D.bool ?_; simp_all; done) | (exfalso; simp_all; done) | skip

theorem cursorBack_ok (x0 : D) (s0 : ∃ ds, CK.hasL [.sl false [.int .u32]] ds ∧ (if false then x0 = .agg ds else ds = [x0])) (x1 : D) (s1 : ∃ ds, CK.hasL [.sl false [.int .u8]] ds ∧ (if false then x1 = .agg ds else ds = [x1])) :
    FnOK Try.prog 5 [.d x0, .d x1] [] (.d (.bool true)) [] := by
  obtain ⟨l, rfl, -, bl⟩ := hasl_u32 (ck1 s0)
  obtain ⟨wd, rfl, -, bw⟩ := hasl_u8 (ck1 s1)
  exact back5 l wd bl bw _ _ rfl rfl _ _ rfl rfl
end Go.Proofs.Ytnkdkdjifalmbaa
