/-
laws 07, plain: segments, their bytes, and how they are read. No program.
-/
import Derived.Test.YtekhpiiediooiaaSxu
import Derived.Test.YtekhpiiediooiaaC01S2
import Derived.Test.YtekhpiiediooiaaC03S1
namespace Go.Proofs.Ytekhpiiediooiaa
open Sx Go.RowKit
open C01 (Cur cIn cNumC cNumN cTakeC cTakeS cDone cOpen cD cBE cBE_len cNum cNum_BE cNum_bd cFits cLay cOdd odd_no odd_yes take_yes takeS_len cB)
open C03 (cSeal cUnseal cSeal_len cSeal_take cUnseal_seal cUnseal_turned)

structure Seg where
  f : Int
  p : Int
  e : Int
  q : Int
  a : Int
  w : Int
  k : List (Int × Int)
  t : List UInt8
  deriving DecidableEq
def blD (b : Int × Int) : D := .agg [.int .u32 b.1, .int .u32 b.2]
def sgD (x : Seg) : D := .agg [.int .u8 x.f, .int .i64 x.p, .int .i64 x.e, .int .u32 x.q, .int .u32 x.a, .int .i64 x.w, .sl (x.k.map blD), .str x.t]
def seg0 : Seg := ⟨0, 0, 0, 0, 0, 0, [], []⟩
/-- Its numbers fit their kinds. -/
structure OkS (x : Seg) : Prop where
  f : 0 ≤ x.f ∧ x.f < 256
  p : -9223372036854775808 ≤ x.p ∧ x.p < 9223372036854775808
  e : -9223372036854775808 ≤ x.e ∧ x.e < 9223372036854775808
  q : 0 ≤ x.q ∧ x.q < 4294967296
  a : 0 ≤ x.a ∧ x.a < 4294967296
  w : -9223372036854775808 ≤ x.w ∧ x.w < 9223372036854775808
  k : ∀ b ∈ x.k, (0 ≤ b.1 ∧ b.1 < 4294967296) ∧ 0 ≤ b.2 ∧ b.2 < 4294967296
def hasB (f k : Int) : Bool := bitsI .and .u8 f k == k
def gChk (x : Seg) : Int :=
  if 31 < x.f then 12
  else if x.p < 0 ∨ 3 < x.p ∨ x.e < 0 ∨ 65535 < x.e ∨ x.w < 0 ∨ 65535 < x.w then 8
  else if 3 < x.k.length ∨ 48 < x.t.length then 5
  else if ((0 < x.k.length ∨ x.a ≠ 0) ∧ hasB x.f 2 = false) ∨ ((hasB x.f 1 = true ∨ hasB x.f 8 = true) ∧ x.t ≠ []) then 4
  else 0
def gSpan (x : Seg) : Int := x.t.length + (if hasB x.f 1 then 1 else 0) + (if hasB x.f 4 then 1 else 0)
/-! ### Laying -/
def bytesZ (z : List (Nat × Nat)) : List UInt8 := z.flatMap fun p => cBE p.2 p.1
def lenZ (z : List (Nat × Nat)) : Nat := (z.map (·.2)).sum
def okZ (z : List (Nat × Nat)) : Prop := ∀ p ∈ z, p.1 < 256 ^ p.2 ∧ 1 ≤ p.2 ∧ p.2 ≤ 7
def zH (x : Seg) : List (Nat × Nat) := [(x.f.toNat, 1), (x.p.toNat, 1), (x.e.toNat, 2), (x.q.toNat, 4), (x.a.toNat, 4), (x.w.toNat, 2), (x.k.length, 1)]
def zK (l : List (Int × Int)) : List (Nat × Nat) := l.flatMap fun b => [(b.1.toNat, 4), (b.2.toNat, 4)]
def zT (x : Seg) : List (Nat × Nat) := [(x.t.length, 1)]
def body (x : Seg) : List UInt8 := bytesZ (zH x) ++ bytesZ (zK x.k) ++ bytesZ (zT x) ++ x.t
def gPut (x : Seg) : List UInt8 := if gChk x = 0 then cSeal (body x) else []
theorem bytesZ_append (a b : List (Nat × Nat)) : bytesZ (a ++ b) = bytesZ a ++ bytesZ b := by unfold bytesZ; rw [List.flatMap_append]
theorem bytesZ_len : ∀ z, (bytesZ z).length = lenZ z
  | [] => rfl
  | p :: r => by
    have := bytesZ_len r
    unfold bytesZ lenZ at *
    simp [cBE_len, this]
theorem fits_of {n k : Nat} (h : n < 256 ^ k) (h1 : 1 ≤ k) (h7 : k ≤ 7) : cFits n k = true := by
  unfold cFits
  refine decide_eq_true ⟨by omega, by omega, by omega, ?_⟩
  rw [Int.toNat_natCast]
  have e : (256 : Int) ^ k = ((256 ^ k : Nat) : Int) := by rw [Int.natCast_pow]; rfl
  rw [e]
  exact Int.ofNat_lt.2 h
theorem lay_of {b : List UInt8} {n k : Nat} (h : n < 256 ^ k) (h1 : 1 ≤ k) (h7 : k ≤ 7) : cLay b n k = b ++ cBE k n := by
  unfold cLay
  rw [fits_of h h1 h7, if_pos rfl, Int.toNat_natCast, Int.toNat_natCast]
theorem chk_zero {x : Seg} (ho : OkS x) (h : gChk x = 0) : x.f ≤ 31 ∧ (0 ≤ x.p ∧ x.p ≤ 3) ∧ (0 ≤ x.e ∧ x.e ≤ 65535) ∧ (0 ≤ x.w ∧ x.w ≤ 65535) ∧ x.k.length ≤ 3 ∧ x.t.length ≤ 48 := by
  unfold gChk at h
  repeat' split at h
  all_goals first | omega | (refine ⟨?_, ⟨?_, ?_⟩, ⟨?_, ?_⟩, ⟨?_, ?_⟩, ?_, ?_⟩ <;> omega)
/-! ### Reading -/
def wdN : Nat → Nat
  | 0 => 1 | 1 => 1 | 2 => 2 | 3 => 4 | 4 => 4 | 5 => 2 | _ => 1
def hdC (c : Cur) : Nat → Cur
  | 0 => c
  | i + 1 => cNumC (hdC c i) (wdN i : Int)
def hdN (c : Cur) (i : Nat) : Int := cNumN (hdC c i) (wdN i : Int)
def skR : Nat → Cur → List (Int × Int) → Cur × List (Int × Int)
  | 0, c, ks => (c, ks)
  | m + 1, c, ks => if c.b = 0 then skR m (cNumC (cNumC c 4) 4) (ks ++ [(cNumN c 4, cNumN (cNumC c 4) 4)]) else (c, ks)
def gSk (c : Cur) : Cur × List (Int × Int) := skR (hdN c 6).toNat (hdC c 7) []
def gTl (c : Cur) : Cur := cTakeC (cNumC (gSk c).1 1) (cNumN (gSk c).1 1)
def gSg (c : Cur) : Seg := ⟨hdN c 0, hdN c 1, hdN c 2, hdN c 3, hdN c 4, hdN c 5, (gSk c).2, cTakeS (cNumC (gSk c).1 1) (cNumN (gSk c).1 1)⟩
def gRd (c : Cur) : Seg × Int := if cDone (gTl c) ≠ 0 then (seg0, cDone (gTl c)) else if gChk (gSg c) ≠ 0 then (seg0, gChk (gSg c)) else (gSg c, 0)
def gGet (s : List UInt8) : Seg × Int := if (cUnseal s).2 ≠ 0 then (seg0, (cUnseal s).2) else gRd (cOpen (cUnseal s).1)
/-- What is read in so many bytes. -/
theorem takeS_le (c : Cur) (k : Nat) : (cTakeS c k).length ≤ k := by
  unfold cTakeS
  split
  · simp
  · simp; omega
theorem num_bd (c : Cur) (k : Nat) : 0 ≤ cNumN c k ∧ cNumN c k < 256 ^ k := by
  have hp := Int.pow_pos (n := 256) (m := k) (by omega)
  by_cases h : cOdd c k
  · rw [(odd_yes h).2]; omega
  · rw [(odd_no h).2]
    exact cNum_bd k _ (takeS_le c k)
theorem num_d (c : Cur) (n : Int) : (cNumC c n).d = c.d := by
  by_cases h : cOdd c n
  · rw [(odd_yes h).1]
  · rw [(odd_no h).1]
    unfold cTakeC
    repeat' split
    all_goals rfl
theorem take_d (c : Cur) (n : Int) : (cTakeC c n).d = c.d := by
  unfold cTakeC
  repeat' split
  all_goals rfl
theorem hd_d (c : Cur) : ∀ i, (hdC c i).d = c.d
  | 0 => rfl
  | i + 1 => by show (cNumC (hdC c i) _).d = _; rw [num_d, hd_d c i]
theorem sk_d : ∀ (m : Nat) (c : Cur) (ks : List (Int × Int)), (skR m c ks).1.d = c.d
  | 0, c, ks => rfl
  | m + 1, c, ks => by
    unfold skR
    split
    · rw [sk_d m, num_d, num_d]
    · rfl
theorem sk_len : ∀ (m : Nat) (c : Cur) (ks : List (Int × Int)), (skR m c ks).2.length ≤ ks.length + m
  | 0, c, ks => Nat.le_refl _
  | m + 1, c, ks => by
    unfold skR
    split
    · have := sk_len m (cNumC (cNumC c 4) 4) (ks ++ [(cNumN c 4, cNumN (cNumC c 4) 4)])
      simp at this; omega
    · show ks.length ≤ _; omega
theorem sk_ok : ∀ (m : Nat) (c : Cur) (ks : List (Int × Int)), (∀ b ∈ ks, (0 ≤ b.1 ∧ b.1 < 4294967296) ∧ 0 ≤ b.2 ∧ b.2 < 4294967296) → ∀ b ∈ (skR m c ks).2, (0 ≤ b.1 ∧ b.1 < 4294967296) ∧ 0 ≤ b.2 ∧ b.2 < 4294967296
  | 0, c, ks, h => h
  | m + 1, c, ks, h => by
    unfold skR
    split
    · refine sk_ok m _ _ fun b hb => ?_
      rcases List.mem_append.1 hb with hb | hb
      · exact h b hb
      · rw [List.mem_singleton.1 hb]
        exact ⟨num_bd c 4, num_bd (cNumC c 4) 4⟩
    · exact h
theorem sg_ok (c : Cur) : OkS (gSg c) where
  f := num_bd (hdC c 0) 1
  p := by have h := num_bd (hdC c 1) 1; show -9223372036854775808 ≤ cNumN (hdC c 1) ((1 : Nat) : Int) ∧ cNumN (hdC c 1) ((1 : Nat) : Int) < 9223372036854775808; omega
  e := by have h := num_bd (hdC c 2) 2; show -9223372036854775808 ≤ cNumN (hdC c 2) ((2 : Nat) : Int) ∧ cNumN (hdC c 2) ((2 : Nat) : Int) < 9223372036854775808; omega
  q := num_bd (hdC c 3) 4
  a := num_bd (hdC c 4) 4
  w := by have h := num_bd (hdC c 5) 2; show -9223372036854775808 ≤ cNumN (hdC c 5) ((2 : Nat) : Int) ∧ cNumN (hdC c 5) ((2 : Nat) : Int) < 9223372036854775808; omega
  k := sk_ok _ _ _ (by intro b hb; cases hb)
/-! ### What was laid is read -/
theorem read_at {pre post : List UInt8} {n k : Nat} (h : n < 256 ^ k) (h1 : 1 ≤ k) (h7 : k ≤ 7) :
    cNumC ⟨pre ++ (cBE k n ++ post), (pre.length : Int), 0⟩ k = ⟨pre ++ (cBE k n ++ post), ((pre.length + k : Nat) : Int), 0⟩ ∧ cNumN ⟨pre ++ (cBE k n ++ post), (pre.length : Int), 0⟩ k = (n : Int) := by
  have hl : (pre ++ (cBE k n ++ post)).length = pre.length + (k + post.length) := by simp [cBE_len]
  have hi : cIn ⟨pre ++ (cBE k n ++ post), (pre.length : Int), 0⟩ := by unfold cIn; dsimp only; omega
  have ho := odd_no (c := ⟨pre ++ (cBE k n ++ post), (pre.length : Int), 0⟩) (n := (k : Int)) (fun o => by have := o.2.2; omega)
  have ht := take_yes (c := ⟨pre ++ (cBE k n ++ post), (pre.length : Int), 0⟩) (n := (k : Int)) rfl hi (by omega) (by dsimp only; omega)
  rw [ho.1, ho.2, ht.1, ht.2]
  dsimp only
  refine ⟨rfl, ?_⟩
  have e : ((pre.length : Int) + (k : Int)).toNat = pre.length + k := by omega
  rw [e, Int.toNat_natCast]
  have e2 : ((pre ++ (cBE k n ++ post)).take (pre.length + k)).drop pre.length = cBE k n := by
    rw [List.take_append, List.drop_append]; simp [cBE_len]
  rw [e2, cNum_BE, Nat.mod_eq_of_lt h]
/-- A cursor ahead of these numbers and what follows them. -/
theorem read_z {B pre post : List UInt8} {n k : Nat} {r : List (Nat × Nat)} (hB : B = pre ++ (bytesZ ((n, k) :: r) ++ post)) (h : n < 256 ^ k) (h1 : 1 ≤ k) (h7 : k ≤ 7) :
    cNumC ⟨B, (pre.length : Int), 0⟩ k = ⟨B, ((pre ++ cBE k n).length : Int), 0⟩ ∧ cNumN ⟨B, (pre.length : Int), 0⟩ k = (n : Int) ∧ B = (pre ++ cBE k n) ++ (bytesZ r ++ post) := by
  have e : bytesZ ((n, k) :: r) = cBE k n ++ bytesZ r := rfl
  rw [e, List.append_assoc] at hB
  have := read_at (pre := pre) (post := bytesZ r ++ post) h h1 h7
  rw [← hB] at this
  refine ⟨?_, this.2, by rw [hB]; simp⟩
  rw [this.1]; simp [cBE_len]
theorem read_k {B post : List UInt8} : ∀ (l : List (Int × Int)) (pre : List UInt8) (ks : List (Int × Int)), (∀ b ∈ l, (0 ≤ b.1 ∧ b.1 < 4294967296) ∧ 0 ≤ b.2 ∧ b.2 < 4294967296) → B = pre ++ (bytesZ (zK l) ++ post) →
    skR l.length ⟨B, (pre.length : Int), 0⟩ ks = (⟨B, ((pre ++ bytesZ (zK l)).length : Int), 0⟩, ks ++ l)
  | [], pre, ks, _, hB => by simp [skR, zK, bytesZ]
  | (u, v) :: r, pre, ks, hl, hB => by
    have hb := hl (u, v) (by simp)
    obtain ⟨n, hn⟩ := Int.eq_ofNat_of_zero_le hb.1.1
    obtain ⟨m, hm⟩ := Int.eq_ofNat_of_zero_le hb.2.1
    simp only at hn hm
    have e0 : zK ((u, v) :: r) = (n, 4) :: (m, 4) :: zK r := by show (u.toNat, 4) :: (v.toNat, 4) :: zK r = _; rw [hn, hm]; rfl
    rw [e0] at hB
    obtain ⟨a1, a2, a3⟩ := read_z hB (by have := hb.1.2; simp only at this; omega) (by omega) (by omega)
    obtain ⟨b1, b2, b3⟩ := read_z a3 (by have := hb.2.2; simp only at this; omega) (by omega) (by omega)
    have ih := read_k r _ (ks ++ [((n : Int), (m : Int))]) (fun b hb => hl b (by simp [hb])) b3
    rw [List.length_cons]
    unfold skR
    rw [if_pos rfl]
    have a1' : cNumC ⟨B, (pre.length : Int), 0⟩ 4 = ⟨B, ((pre ++ cBE 4 n).length : Int), 0⟩ := a1
    have a2' : cNumN ⟨B, (pre.length : Int), 0⟩ 4 = (n : Int) := a2
    have b1' : cNumC ⟨B, ((pre ++ cBE 4 n).length : Int), 0⟩ 4 = ⟨B, ((pre ++ cBE 4 n ++ cBE 4 m).length : Int), 0⟩ := b1
    have b2' : cNumN ⟨B, ((pre ++ cBE 4 n).length : Int), 0⟩ 4 = (m : Int) := b2
    rw [a1', a2', b1', b2', ih, e0]
    have e2 : bytesZ ((n, 4) :: (m, 4) :: zK r) = cBE 4 n ++ (cBE 4 m ++ bytesZ (zK r)) := rfl
    rw [e2, hn, hm]
    simp
theorem get_body {x : Seg} (ho : OkS x) (h : gChk x = 0) : gRd (cOpen (body x)) = (x, 0) := by
  obtain ⟨h1, h2, h3, h4, h5, h6⟩ := chk_zero ho h
  obtain ⟨f, p, e, q, a, w, k, t⟩ := x
  obtain ⟨o1, o2, o3, o4, o5, o6, o7⟩ := ho
  simp only at h1 h2 h3 h4 h5 h6 o1 o2 o3 o4 o5 o6 o7
  obtain ⟨f', rfl⟩ := Int.eq_ofNat_of_zero_le o1.1
  obtain ⟨p', rfl⟩ := Int.eq_ofNat_of_zero_le h2.1
  obtain ⟨e', rfl⟩ := Int.eq_ofNat_of_zero_le h3.1
  obtain ⟨q', rfl⟩ := Int.eq_ofNat_of_zero_le o4.1
  obtain ⟨a', rfl⟩ := Int.eq_ofNat_of_zero_le o5.1
  obtain ⟨w', rfl⟩ := Int.eq_ofNat_of_zero_le h4.1
  generalize hB : body ⟨f', p', e', q', a', w', k, t⟩ = B
  have e0 : B = [] ++ (bytesZ ((f', 1) :: (p', 1) :: (e', 2) :: (q', 4) :: (a', 4) :: (w', 2) :: [(k.length, 1)]) ++ (bytesZ (zK k) ++ (bytesZ [(t.length, 1)] ++ t))) := by
    rw [← hB]; unfold body zH zT; simp
  obtain ⟨a1, a2, a3⟩ := read_z e0 (by omega) (by omega) (by omega)
  obtain ⟨b1, b2, b3⟩ := read_z a3 (by omega) (by omega) (by omega)
  obtain ⟨c1, c2, c3⟩ := read_z b3 (by omega) (by omega) (by omega)
  obtain ⟨d1, d2, d3⟩ := read_z c3 (by omega) (by omega) (by omega)
  obtain ⟨g1, g2, g3⟩ := read_z d3 (by omega) (by omega) (by omega)
  obtain ⟨i1, i2, i3⟩ := read_z g3 (by omega) (by omega) (by omega)
  obtain ⟨j1, j2, j3⟩ := read_z i3 (by omega) (by omega) (by omega)
  generalize hP0 : ([] ++ cBE 1 f' ++ cBE 1 p' ++ cBE 2 e' ++ cBE 4 q' ++ cBE 4 a' ++ cBE 2 w' ++ cBE 1 k.length : List UInt8) = P0 at j1 j3
  have j4 : B = P0 ++ (bytesZ (zK k) ++ (bytesZ [(t.length, 1)] ++ t)) := j3
  have k1 := read_k k P0 [] o7 j4
  have k2 : B = (P0 ++ bytesZ (zK k)) ++ (bytesZ [(t.length, 1)] ++ t) := by rw [List.append_assoc]; exact j4
  obtain ⟨m1, m2, m3⟩ := read_z k2 (by omega) (by omega) (by omega)
  generalize hP : P0 ++ bytesZ (zK k) ++ cBE 1 t.length = P at m1 m3
  have m3 : B = P ++ t := m3
  have hc0 : cOpen B = ⟨B, (([] : List UInt8).length : Int), 0⟩ := rfl
  have r1 : hdC (cOpen B) 1 = _ := a1
  have n0 : hdN (cOpen B) 0 = (f' : Int) := a2
  have r2 : hdC (cOpen B) 2 = _ := (congrArg (fun c => cNumC c 1) r1).trans b1
  have n1 : hdN (cOpen B) 1 = (p' : Int) := (congrArg (fun c => cNumN c 1) r1).trans b2
  have r3 : hdC (cOpen B) 3 = _ := (congrArg (fun c => cNumC c 2) r2).trans c1
  have n2 : hdN (cOpen B) 2 = (e' : Int) := (congrArg (fun c => cNumN c 2) r2).trans c2
  have r4 : hdC (cOpen B) 4 = _ := (congrArg (fun c => cNumC c 4) r3).trans d1
  have n3 : hdN (cOpen B) 3 = (q' : Int) := (congrArg (fun c => cNumN c 4) r3).trans d2
  have r5 : hdC (cOpen B) 5 = _ := (congrArg (fun c => cNumC c 4) r4).trans g1
  have n4 : hdN (cOpen B) 4 = (a' : Int) := (congrArg (fun c => cNumN c 4) r4).trans g2
  have r6 : hdC (cOpen B) 6 = _ := (congrArg (fun c => cNumC c 2) r5).trans i1
  have n5 : hdN (cOpen B) 5 = (w' : Int) := (congrArg (fun c => cNumN c 2) r5).trans i2
  have r7 : hdC (cOpen B) 7 = _ := (congrArg (fun c => cNumC c 1) r6).trans j1
  have n6 : hdN (cOpen B) 6 = (k.length : Int) := (congrArg (fun c => cNumN c 1) r6).trans j2
  have s1 : gSk (cOpen B) = (⟨B, ((P0 ++ bytesZ (zK k)).length : Int), 0⟩, [] ++ k) := by
    unfold gSk
    rw [n6, Int.toNat_natCast, r7]
    exact k1
  have t1 : cNumC (gSk (cOpen B)).1 1 = ⟨B, (P.length : Int), 0⟩ := by rw [s1]; exact m1
  have t2 : cNumN (gSk (cOpen B)).1 1 = (t.length : Int) := by rw [s1]; exact m2
  have hBl : B.length = P.length + t.length := by rw [m3]; simp
  have hin : cIn ⟨B, (P.length : Int), 0⟩ := by unfold cIn; dsimp only; omega
  have ht := take_yes (c := ⟨B, (P.length : Int), 0⟩) (n := (t.length : Int)) rfl hin (by omega) (by dsimp only; omega)
  have u1 : gTl (cOpen B) = ⟨B, (P.length : Int) + t.length, 0⟩ := by unfold gTl; rw [t1, t2]; exact ht.1
  have u2 : cTakeS (cNumC (gSk (cOpen B)).1 1) (cNumN (gSk (cOpen B)).1 1) = t := by
    rw [t1, t2, ht.2]
    dsimp only
    have e5 : ((P.length : Int) + (t.length : Int)).toNat = B.length := by omega
    rw [e5, List.take_length, Int.toNat_natCast, m3, List.drop_left]
  have v : gSg (cOpen B) = ⟨f', p', e', q', a', w', k, t⟩ := by
    unfold gSg
    rw [n0, n1, n2, n3, n4, n5, u2, s1]
    rfl
  have hd : cDone (gTl (cOpen B)) = 0 := by
    rw [u1]
    refine C01.done_all rfl ?_ ?_
    · unfold cIn; dsimp only; omega
    · dsimp only; omega
  unfold gRd
  rw [v, hd, if_neg (by simp), if_neg (by simpa using h)]
theorem put_get {x : Seg} (ho : OkS x) (h : gChk x = 0) : gGet (gPut x) = (x, 0) := by
  unfold gGet gPut
  rw [if_pos h, cUnseal_seal, if_neg (by simp)]
  exact get_body ho h
theorem put_inj {x y : Seg} (ho : OkS x) (h : gChk x = 0) (hp : OkS y) (g : gChk y = 0) : gPut x = gPut y ↔ x = y := by
  constructor
  · intro e
    have h1 := put_get ho h
    rw [e, put_get hp g] at h1
    exact (congrArg Prod.fst h1).symm
  · rintro rfl; rfl
end Go.Proofs.Ytekhpiiediooiaa
