/-
laws 01, plain: numbers that were laid are read, one behind the other. No program.
-/
import Derived.Test.YtnkdkdjifalmbaaS4
set_option linter.unusedSimpArgs false
set_option linter.unusedVariables false
namespace Go.Proofs.Ytnkdkdjifalmbaa
open Sx Go.RowKit

/-- Numbers and in how many bytes each is laid. -/
def okZ (z : List (Nat × Nat)) : Prop := ∀ p ∈ z, p.1 < 4294967296 ∧ 4 ≤ p.2 ∧ p.2 ≤ 7
def bytesZ (z : List (Nat × Nat)) : List UInt8 := z.flatMap fun p => cBE p.2 p.1
def lenZ (z : List (Nat × Nat)) : Nat := (z.map (·.2)).sum
theorem bytesZ_len : ∀ z, (bytesZ z).length = lenZ z
  | [] => rfl
  | p :: r => by
    have := bytesZ_len r
    unfold bytesZ lenZ at *
    rw [List.flatMap_cons, List.length_append, cBE_len, this]; simp
theorem bytesZ_append (a b : List (Nat × Nat)) : bytesZ (a ++ b) = bytesZ a ++ bytesZ b := by unfold bytesZ; rw [List.flatMap_append]
theorem lenZ_append (a b : List (Nat × Nat)) : lenZ (a ++ b) = lenZ a + lenZ b := by unfold lenZ; simp
theorem fits_z {n k : Nat} (h : n < 4294967296) (h4 : 4 ≤ k) (h7 : k ≤ 7) : cFits n k = true := by
  show decide ((0 : Int) ≤ (n : Int) ∧ (1 : Int) ≤ (k : Int) ∧ (k : Int) ≤ 7 ∧ (n : Int) < 256 ^ ((k : Int).toNat)) = true
  rw [decide_eq_true_eq, Int.toNat_natCast]
  have : (256 : Int) ^ 4 ≤ 256 ^ k := by
    have h := Nat.pow_le_pow_right (n := 256) (by omega) h4
    have e1 : (256 : Int) ^ 4 = ((256 ^ 4 : Nat) : Int) := (Int.natCast_pow 256 4).symm
    have e2 : (256 : Int) ^ k = ((256 ^ k : Nat) : Int) := (Int.natCast_pow 256 k).symm
    rw [e1, e2]; exact Int.ofNat_le.2 h
  refine ⟨by omega, by omega, by omega, ?_⟩
  have e : (256 : Int) ^ 4 = 4294967296 := by decide
  omega
theorem lay_z {b : List UInt8} {n k : Nat} (h : n < 4294967296) (h4 : 4 ≤ k) (h7 : k ≤ 7) : cLay b n k = b ++ cBE k n := by
  unfold cLay; rw [if_pos (fits_z h h4 h7)]; simp
theorem num_z {n k : Nat} (h : n < 4294967296) (h4 : 4 ≤ k) : cNum (cBE k n) = (n : Int) := by
  rw [cNum_BE, Nat.mod_eq_of_lt]
  have := Nat.pow_le_pow_right (n := 256) (by omega) h4
  have e : 256 ^ 4 = 4294967296 := by decide
  omega
/-- A number is read where it stands. -/
theorem read_z {pre post : List UInt8} {n k : Nat} (h : n < 4294967296) (h4 : 4 ≤ k) (h7 : k ≤ 7) :
    cNumC ⟨pre ++ (cBE k n ++ post), (pre.length : Int), 0⟩ k = ⟨pre ++ (cBE k n ++ post), ((pre.length + k : Nat) : Int), 0⟩ ∧ cNumN ⟨pre ++ (cBE k n ++ post), (pre.length : Int), 0⟩ k = (n : Int) := by
  have hl : (pre ++ (cBE k n ++ post)).length = pre.length + (k + post.length) := by simp [cBE_len]
  have hi : cIn ⟨pre ++ (cBE k n ++ post), (pre.length : Int), 0⟩ := by unfold cIn; dsimp only; omega
  have ho := odd_no (c := ⟨pre ++ (cBE k n ++ post), (pre.length : Int), 0⟩) (n := (k : Int)) (fun o => by have := o.2.2; omega)
  have ht := take_yes (c := ⟨pre ++ (cBE k n ++ post), (pre.length : Int), 0⟩) (n := (k : Int)) rfl hi (by omega) (by dsimp only; omega)
  rw [ho.1, ho.2, ht.1, ht.2]
  dsimp only
  refine ⟨rfl, ?_⟩
  have e : ((pre.length : Int) + (k : Int)).toNat = pre.length + k := by omega
  rw [e, Int.toNat_natCast]
  have e2 : ((pre ++ (cBE k n ++ post)).take (pre.length + k)).drop pre.length = cBE k n := by
    rw [List.take_append, List.drop_append]; simp [cBE_len]
  rw [e2]; exact num_z h h4
def rdZ (B : List UInt8) (z : List (Nat × Nat)) (j : Nat) : Cur := (z.take j).foldl (fun c p => cNumC c (p.2 : Int)) (cOpen B)
theorem rd_succ {B : List UInt8} {z : List (Nat × Nat)} {j : Nat} {p : Nat × Nat} (h : z[j]? = some p) : rdZ B z (j + 1) = cNumC (rdZ B z j) (p.2 : Int) := by
  unfold rdZ; rw [List.take_add_one, h, List.foldl_append]; rfl
theorem lenZ_take {z : List (Nat × Nat)} {j : Nat} {p : Nat × Nat} (h : z[j]? = some p) : lenZ (z.take (j + 1)) = lenZ (z.take j) + p.2 := by
  rw [List.take_add_one, h, lenZ_append]; simp [lenZ]
theorem lenZ_split (z : List (Nat × Nat)) (j : Nat) : lenZ z = lenZ (z.take j) + lenZ (z.drop j) := by
  rw [← lenZ_append, List.take_append_drop]
theorem lenZ_le : ∀ (z : List (Nat × Nat)), okZ z → lenZ z ≤ 7 * z.length
  | [], _ => by simp [lenZ]
  | p :: r, h => by
    have h1 := lenZ_le r (fun q hq => h q (List.mem_cons_of_mem _ hq))
    have h2 := h p (List.mem_cons_self)
    unfold lenZ at *
    simp only [List.map_cons, List.sum_cons, List.length_cons]; omega
theorem ok_at {z : List (Nat × Nat)} (hz : okZ z) {j : Nat} {p : Nat × Nat} (h : z[j]? = some p) : p.1 < 4294967296 ∧ 4 ≤ p.2 ∧ p.2 ≤ 7 := hz p (List.mem_of_getElem? h)
theorem layZ {z : List (Nat × Nat)} (hz : okZ z) {j : Nat} {p : Nat × Nat} (h : z[j]? = some p) : cLay (bytesZ (z.take j)) p.1 p.2 = bytesZ (z.take (j + 1)) := by
  obtain ⟨h1, h2, h3⟩ := ok_at hz h
  rw [lay_z h1 h2 h3, List.take_add_one, h, bytesZ_append]; simp [bytesZ]
def atZ (z : List (Nat × Nat)) (j : Nat) : Cur := ⟨bytesZ z, (lenZ (z.take j) : Int), 0⟩
theorem readZ {z : List (Nat × Nat)} (hz : okZ z) {j : Nat} {p : Nat × Nat} (h : z[j]? = some p) : cNumC (atZ z j) p.2 = atZ z (j + 1) ∧ cNumN (atZ z j) p.2 = p.1 := by
  obtain ⟨h1, h2, h3⟩ := ok_at hz h
  have hj : j < z.length := (List.getElem?_eq_some_iff.1 h).1
  have e : bytesZ z = bytesZ (z.take j) ++ (cBE p.2 p.1 ++ bytesZ (z.drop (j + 1))) := by
    conv => lhs; rw [← List.take_append_drop j z, bytesZ_append]
    congr 1
    rw [List.drop_eq_getElem_cons hj]
    have : z[j] = p := (List.getElem?_eq_some_iff.1 h).2
    rw [this]; simp [bytesZ]
  have hr := read_z (pre := bytesZ (z.take j)) (post := bytesZ (z.drop (j + 1))) h1 h2 h3
  rw [← e, bytesZ_len] at hr
  unfold atZ
  rw [lenZ_take h]
  exact hr
theorem at_done (z : List (Nat × Nat)) : cDone (atZ z z.length) = 0 := by
  have e : lenZ (z.take z.length) = lenZ z := by rw [List.take_length]
  apply done_all rfl
  · unfold cIn atZ; dsimp only; rw [e, bytesZ_len]; omega
  · unfold atZ; dsimp only; rw [e, bytesZ_len]; omega
theorem rdZ_d (B : List UInt8) (z : List (Nat × Nat)) : ∀ j, (rdZ B z j).d = B
  | 0 => by simp [rdZ, cOpen]
  | j + 1 => by
    have ih := rdZ_d B z j
    by_cases h : j < z.length
    · rw [rd_succ (List.getElem?_eq_getElem h), numC_d, ih]
    · unfold rdZ at *
      rw [List.take_of_length_le (by omega)] at *; exact ih
theorem rdZ_at {z : List (Nat × Nat)} (hz : okZ z) : ∀ j, j < z.length → rdZ ((bytesZ z).take (lenZ z - 1)) z j = ⟨(bytesZ z).take (lenZ z - 1), (lenZ (z.take j) : Int), 0⟩ ∧ lenZ (z.take j) + 4 ≤ lenZ z
  | j, hj => by
    have hg : z[j]? = some z[j] := List.getElem?_eq_getElem hj
    have h0 := ok_at hz hg
    have h1 := lenZ_take hg
    have h2 := lenZ_split z (j + 1)
    have h3 : lenZ (z.take j) + 4 ≤ lenZ z := by omega
    refine ⟨?_, h3⟩
    match j with
    | 0 => simp [rdZ, cOpen, lenZ]
    | i + 1 =>
      have hi : i < z.length := by omega
      have gi : z[i]? = some z[i] := List.getElem?_eq_getElem hi
      have k0 := ok_at hz gi
      have k1 := lenZ_take gi
      rw [rd_succ gi, (rdZ_at hz i hi).1]
      have hL : ((bytesZ z).take (lenZ z - 1)).length = lenZ z - 1 := by rw [List.length_take, bytesZ_len]; omega
      have hin : cIn ⟨(bytesZ z).take (lenZ z - 1), (lenZ (z.take i) : Int), 0⟩ := by unfold cIn; dsimp only; rw [hL]; omega
      rw [(odd_no (c := ⟨(bytesZ z).take (lenZ z - 1), (lenZ (z.take i) : Int), 0⟩) (n := ((z[i].2 : Nat) : Int)) (fun o => by have := o.2.2; omega)).1]
      rw [(take_yes (c := ⟨(bytesZ z).take (lenZ z - 1), (lenZ (z.take i) : Int), 0⟩) (n := ((z[i].2 : Nat) : Int)) rfl hin (by omega) (by dsimp only; rw [hL]; omega)).1]
      dsimp only
      rw [k1]; rfl
theorem rdZ_cut {z : List (Nat × Nat)} (hz : okZ z) (h : 0 < z.length) : (rdZ ((bytesZ z).take (lenZ z - 1)) z z.length).b = 3 := by
  obtain ⟨j, hj⟩ : ∃ j, z.length = j + 1 := ⟨z.length - 1, by omega⟩
  have hlt : j < z.length := by omega
  have hg : z[j]? = some z[j] := List.getElem?_eq_getElem hlt
  have h0 := ok_at hz hg
  have h1 := lenZ_take hg
  have h2 : lenZ (z.take (j + 1)) = lenZ z := by rw [← hj, List.take_length]
  rw [hj, rd_succ hg, (rdZ_at hz j hlt).1]
  have hL : ((bytesZ z).take (lenZ z - 1)).length = lenZ z - 1 := by rw [List.length_take, bytesZ_len]; omega
  have hin : cIn ⟨(bytesZ z).take (lenZ z - 1), (lenZ (z.take j) : Int), 0⟩ := by unfold cIn; dsimp only; rw [hL]; omega
  rw [(odd_no (c := ⟨(bytesZ z).take (lenZ z - 1), (lenZ (z.take j) : Int), 0⟩) (n := ((z[j].2 : Nat) : Int)) (fun o => by have := o.2.2; omega)).1]
  rw [(take_cut (c := ⟨(bytesZ z).take (lenZ z - 1), (lenZ (z.take j) : Int), 0⟩) (n := ((z[j].2 : Nat) : Int)) rfl hin (by omega) (by dsimp only; rw [hL]; omega)).1]
/-- The numbers of a list with the widths beside it. -/
def zz (l wd : List Int) : List (Nat × Nat) := List.zipWith (fun n w => (n.toNat, (4 + w % 4).toNat)) l wd
theorem zz_len {l wd : List Int} (h : l.length ≤ wd.length) : (zz l wd).length = l.length := by unfold zz; rw [List.length_zipWith]; omega
theorem zz_at {l wd : List Int} {j : Nat} {n w : Int} (h1 : l[j]? = some n) (h2 : wd[j]? = some w) : (zz l wd)[j]? = some (n.toNat, (4 + w % 4).toNat) := by
  unfold zz; rw [List.getElem?_zipWith, h1, h2]
theorem zz_ok {l wd : List Int} (hl : ∀ n ∈ l, 0 ≤ n ∧ n < 4294967296) : okZ (zz l wd) := by
  intro p hp
  obtain ⟨j, hj⟩ := List.getElem?_of_mem hp
  unfold zz at hj
  rw [List.getElem?_zipWith] at hj
  cases h1 : l[j]? with
  | none => rw [h1] at hj; simp at hj
  | some n =>
    cases h2 : wd[j]? with
    | none => rw [h1, h2] at hj; simp at hj
    | some w =>
      rw [h1, h2] at hj
      simp only [Option.some.injEq] at hj
      subst hj
      have := hl n (List.mem_of_getElem? h1)
      dsimp only; omega
end Go.Proofs.Ytnkdkdjifalmbaa
