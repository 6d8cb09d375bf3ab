/-
laws 03, plain: a text's sum, bit by bit, on 32 bits; what a change of one byte does to it. No program.
-/
import Derived.Test.YtekhpiiediooiaaSxt
namespace Go.Proofs.Ytekhpiiediooiaa.C03
open Sx Go.RowKit

abbrev B32 := BitVec 32
def bv (n : Int) : B32 := BitVec.ofInt 32 n
def iv (b : B32) : Int := b.toNat
theorem iv_bd (b : B32) : 0 ≤ iv b ∧ iv b < 4294967296 := by unfold iv; have := b.isLt; omega
theorem bv_iv (b : B32) : bv (iv b) = b := by unfold bv iv; apply BitVec.eq_of_toNat_eq; simp [BitVec.toNat_ofInt]
theorem iv_bv {n : Int} (h0 : 0 ≤ n) (h1 : n < 4294967296) : iv (bv n) = n := by
  unfold bv iv; rw [BitVec.toNat_ofInt]; omega
theorem wrap_iv (b : B32) : IntKind.u32.wrap (iv b) = iv b := by have := iv_bd b; rw [IntKind.wrap_u32]; omega
theorem wrap_nat (b : B32) : IntKind.u32.wrap (b.toNat : Int) = iv b := wrap_iv b
theorem and_iv (a b : B32) : bitsI .and .u32 (iv a) (iv b) = iv (a &&& b) := by
  show IntKind.u32.wrap ((bv (iv a) &&& bv (iv b)).toNat : Int) = _
  rw [bv_iv, bv_iv, wrap_nat]
theorem or_iv (a b : B32) : bitsI .or .u32 (iv a) (iv b) = iv (a ||| b) := by
  show IntKind.u32.wrap ((bv (iv a) ||| bv (iv b)).toNat : Int) = _
  rw [bv_iv, bv_iv, wrap_nat]
theorem xor_iv (a b : B32) : bitsI .xor .u32 (iv a) (iv b) = iv (a ^^^ b) := by
  show IntKind.u32.wrap ((bv (iv a) ^^^ bv (iv b)).toNat : Int) = _
  rw [bv_iv, bv_iv, wrap_nat]

def cBit (r : B32) : B32 := if r &&& 1#32 = 1#32 then (r >>> 1) ^^^ 3988292384#32 else r >>> 1
def cN : Nat → B32 → B32
  | 0, r => r
  | n + 1, r => cBit (cN n r)
def cStep (r : B32) : B32 := cN 8 r
def cTake (r : B32) (c : UInt8) : B32 := cStep (r ^^^ BitVec.ofNat 32 c.toNat)
def cReg (r : B32) (s : List UInt8) : B32 := s.foldl cTake r
def cMore (r : B32) (s : List UInt8) : B32 := ~~~ cReg (~~~ r) s
def cSum (s : List UInt8) : B32 := cMore 0#32 s
def b8 (n : Nat) : UInt8 := UInt8.ofNat n
def cFour (r : B32) : List UInt8 := [b8 (r.toNat / 16777216), b8 (r.toNat / 65536), b8 (r.toNat / 256), b8 r.toNat]
def cSeal (s : List UInt8) : List UInt8 := s ++ cFour (cSum s)
def cWord (l : List UInt8) : B32 := l.foldl (fun r c => (r <<< 8) ||| BitVec.ofNat 32 c.toNat) 0#32
def cUnseal (s : List UInt8) : List UInt8 × Int :=
  if s.length < 4 then ([], 3) else
  if s = cSeal (s.take (s.length - 4)) then (s.take (s.length - 4), 0) else ([], 11)

theorem shr_iv (r : B32) : (iv r).fdiv 2 = iv (r >>> 1) := by
  unfold iv
  rw [Int.fdiv_eq_ediv_of_nonneg _ (by omega), BitVec.toNat_ushiftRight]
  simp [Nat.shiftRight_eq_div_pow]
theorem low_iv (r : B32) : (r &&& 1#32 = 1#32) ↔ iv r % 2 = 1 := by
  unfold iv
  rw [BitVec.toNat_eq.trans (Iff.of_eq rfl)]
  simp only [BitVec.toNat_and, BitVec.toNat_ofNat]
  rw [show (1 % 2 ^ 32 : Nat) = 2 ^ 1 - 1 from rfl, Nat.and_two_pow_sub_one_eq_mod]
  omega
theorem shl_iv (r : B32) : IntKind.u32.wrap (iv r * 256) = iv (r <<< 8) := by
  unfold iv
  rw [IntKind.wrap_u32, BitVec.toNat_shiftLeft, Nat.shiftLeft_eq]
  omega
theorem not_iv (r : B32) : bitsI .xor .u32 IntKind.u32.max (iv r) = iv (~~~ r) := by
  have h : IntKind.u32.max = iv (BitVec.allOnes 32) := by decide
  rw [h, xor_iv, BitVec.allOnes_xor]
theorem xor_ones (r : B32) : bitsI .xor .u32 (iv r) 4294967295 = iv (~~~ r) := by
  have h : (4294967295 : Int) = iv (BitVec.allOnes 32) := by decide
  rw [h, xor_iv, BitVec.xor_allOnes]
theorem byte_iv (c : UInt8) : (c.toNat : Int) = iv (BitVec.ofNat 32 c.toNat) := by
  unfold iv
  have := c.toNat_lt
  rw [BitVec.toNat_ofNat, Nat.mod_eq_of_lt (by omega)]

theorem cBit_inj {a b : B32} (h : cBit a = cBit b) : a = b := by
  have half : ∀ {x y : B32}, (x &&& 1#32 = 1#32 ↔ y &&& 1#32 = 1#32) → x >>> 1 = y >>> 1 → x = y := by
    intro x y h1 h2
    rw [low_iv, low_iv] at h1
    have h3 : (x >>> 1).toNat = (y >>> 1).toNat := by rw [h2]
    rw [BitVec.toNat_ushiftRight, BitVec.toNat_ushiftRight, Nat.shiftRight_eq_div_pow, Nat.shiftRight_eq_div_pow] at h3
    apply BitVec.eq_of_toNat_eq
    unfold iv at h1
    omega
  have top : ∀ x y : B32, ¬ ((x >>> 1) ^^^ 3988292384#32 = y >>> 1) := by
    intro x y he
    have h1 : ((x >>> 1) ^^^ 3988292384#32).getLsbD 31 = (y >>> 1).getLsbD 31 := by rw [he]
    rw [BitVec.getLsbD_xor, BitVec.getLsbD_ushiftRight, BitVec.getLsbD_ushiftRight] at h1
    have h2 : (3988292384#32 : B32).getLsbD 31 = true := by decide
    rw [h2, BitVec.getLsbD_of_ge x 32 (by omega), BitVec.getLsbD_of_ge y 32 (by omega)] at h1
    cases h1
  unfold cBit at h
  split at h
  · next ha =>
    split at h
    · next hb => exact half (by simp [ha, hb]) (by simpa using h)
    · exact absurd h (top a b)
  · next ha =>
    split at h
    · exact absurd h.symm (top b a)
    · next hb => exact half (by simp [ha, hb]) h
theorem cN_inj {a b : B32} : ∀ n, cN n a = cN n b → a = b
  | 0, h => h
  | n + 1, h => cN_inj n (cBit_inj h)
theorem cTake_inj {a b : B32} {c : UInt8} (h : cTake a c = cTake b c) : a = b := by
  have := cN_inj 8 h
  simpa using this
theorem byte_inj {c d : UInt8} (h : BitVec.ofNat 32 c.toNat = BitVec.ofNat 32 d.toNat) : c = d := by
  have := congrArg BitVec.toNat h
  have h1 := c.toNat_lt
  have h2 := d.toNat_lt
  rw [BitVec.toNat_ofNat, BitVec.toNat_ofNat, Nat.mod_eq_of_lt (by omega), Nat.mod_eq_of_lt (by omega)] at this
  exact UInt8.toNat_inj.1 this
theorem cTake_inj2 {a : B32} {c d : UInt8} (h : cTake a c = cTake a d) : c = d := by
  have := cN_inj 8 h
  exact byte_inj (by simpa using this)
theorem cReg_inj {a b : B32} : ∀ (s : List UInt8), cReg a s = cReg b s → a = b
  | [], h => h
  | c :: r, h => cTake_inj (cReg_inj r h)
theorem cReg_append (r : B32) (s t : List UInt8) : cReg r (s ++ t) = cReg (cReg r s) t := List.foldl_append ..
theorem cReg_set : ∀ (s : List UInt8) (r : B32) (i : Nat) (c : UInt8) (x : UInt8), s[i]? = some x → c ≠ x → cReg r (s.set i c) ≠ cReg r s
  | [], _, _, _, _, h, _ => by simp at h
  | y :: s, r, 0, c, x, h, hne => by
    cases h
    intro he
    exact hne (cTake_inj2 (cReg_inj s he))
  | y :: s, r, i + 1, c, x, h, hne => cReg_set s (cTake r y) i c x h hne
theorem cMore_append (r : B32) (s t : List UInt8) : cMore (cMore r s) t = cMore r (s ++ t) := by
  unfold cMore; rw [cReg_append, BitVec.not_not]
theorem cSum_append (s t : List UInt8) : cMore (cSum s) t = cSum (s ++ t) := cMore_append _ _ _
theorem cSum_set {s : List UInt8} {i : Nat} {c x : UInt8} (h : s[i]? = some x) (hne : c ≠ x) : cSum (s.set i c) ≠ cSum s := by
  intro he
  unfold cSum cMore at he
  have := congrArg (fun b => ~~~ b) he
  simp only [BitVec.not_not] at this
  exact cReg_set s _ i c x h hne this

theorem b8_nat (n : Nat) : (b8 n).toNat = n % 256 := by unfold b8; simp
theorem shl_or (r : B32) (c : UInt8) : ((r <<< 8) ||| BitVec.ofNat 32 c.toNat).toNat = (r.toNat * 256) % 4294967296 + c.toNat := by
  have hc := c.toNat_lt
  rw [BitVec.toNat_or, BitVec.toNat_shiftLeft, BitVec.toNat_ofNat, Nat.mod_eq_of_lt (show c.toNat < 2 ^ 32 by omega), Nat.shiftLeft_eq]
  have e : r.toNat * 2 ^ 8 % 2 ^ 32 = (r.toNat % 2 ^ 24) <<< 8 := by rw [Nat.shiftLeft_eq]; omega
  rw [e, ← Nat.shiftLeft_add_eq_or_of_lt (by omega), Nat.shiftLeft_eq]
  (try omega)
theorem cWord4 (a b c d : UInt8) : (cWord [a, b, c, d]).toNat = a.toNat * 16777216 + b.toNat * 65536 + c.toNat * 256 + d.toNat := by
  have h1 := a.toNat_lt
  have h2 := b.toNat_lt
  have h3 := c.toNat_lt
  have h4 := d.toNat_lt
  simp only [cWord, List.foldl_cons, List.foldl_nil, shl_or, BitVec.toNat_ofNat]
  omega
theorem cWord_four (r : B32) : cWord (cFour r) = r := by
  apply BitVec.eq_of_toNat_eq
  have := r.isLt
  unfold cFour
  rw [cWord4, b8_nat, b8_nat, b8_nat, b8_nat]
  omega
theorem cFour_word (a b c d : UInt8) : cFour (cWord [a, b, c, d]) = [a, b, c, d] := by
  have h1 := a.toNat_lt
  have h2 := b.toNat_lt
  have h3 := c.toNat_lt
  have h4 := d.toNat_lt
  have e : ∀ {n : Nat} {x : UInt8}, n % 256 = x.toNat → b8 n = x := fun h => UInt8.toNat_inj.1 (by rw [b8_nat]; exact h)
  unfold cFour
  rw [cWord4, e (x := a) (by omega), e (x := b) (by omega), e (x := c) (by omega), e (x := d) (by omega)]
theorem cFour_inj {a b : B32} (h : cFour a = cFour b) : a = b := by rw [← cWord_four a, ← cWord_four b, h]
theorem four_of {l : List UInt8} (h : l.length = 4) : ∃ a b c d, l = [a, b, c, d] := by
  match l, h with
  | [a, b, c, d], _ => exact ⟨a, b, c, d, rfl⟩
/-- The program's question is the document's. -/
theorem unseal_iff {s : List UInt8} (h : 4 ≤ s.length) : cSum (s.take (s.length - 4)) = cWord (s.drop (s.length - 4)) ↔ s = cSeal (s.take (s.length - 4)) := by
  obtain ⟨a, b, c, d, hd⟩ := four_of (l := s.drop (s.length - 4)) (by simp; omega)
  have hs : s = s.take (s.length - 4) ++ s.drop (s.length - 4) := (List.take_append_drop _ _).symm
  constructor
  · intro he
    unfold cSeal
    rw [he, hd, cFour_word, ← hd, ← hs]
  · intro he
    have : s.take (s.length - 4) ++ s.drop (s.length - 4) = s.take (s.length - 4) ++ cFour (cSum (s.take (s.length - 4))) := by rw [← hs]; exact he
    rw [List.append_cancel_left this, cWord_four]
theorem cFour_len (r : B32) : (cFour r).length = 4 := rfl
theorem cSeal_len (s : List UInt8) : (cSeal s).length = s.length + 4 := by unfold cSeal; rw [List.length_append, cFour_len]
theorem cSeal_take (s : List UInt8) : (cSeal s).take ((cSeal s).length - 4) = s := by rw [cSeal_len]; unfold cSeal; simp
theorem cUnseal_seal (s : List UInt8) : cUnseal (cSeal s) = (s, 0) := by
  unfold cUnseal
  rw [cSeal_take, if_neg (by rw [cSeal_len]; omega), if_pos rfl]
theorem cUnseal_turned {s : List UInt8} {i : Nat} {c x : UInt8} (h : (cSeal s)[i]? = some x) (hne : c ≠ x) : cUnseal ((cSeal s).set i c) = ([], 11) := by
  have hl := cSeal_len s
  have hi := (List.getElem?_eq_some_iff.1 h).1
  unfold cUnseal
  rw [List.length_set, if_neg (by omega), if_neg]
  intro he
  rcases Nat.lt_or_ge i s.length with hlt | hge
  · have e1 : (cSeal s).set i c = s.set i c ++ cFour (cSum s) := by unfold cSeal; rw [List.set_append, if_pos hlt]
    have hx : s[i]? = some x := by unfold cSeal at h; rw [List.getElem?_append_left hlt] at h; exact h
    rw [e1, show (cSeal s).length - 4 = (s.set i c).length by rw [List.length_set]; omega, List.take_left] at he
    have := cFour_inj (List.append_cancel_left he)
    exact cSum_set hx hne this.symm
  · have e1 : ((cSeal s).set i c).take ((cSeal s).length - 4) = s := by
      rw [List.take_set_of_le (by omega)]; exact cSeal_take s
    rw [e1] at he
    have : ((cSeal s).set i c)[i]? = some x := by rw [he]; exact h
    rw [List.getElem?_set_self hi] at this
    cases this
    exact hne rfl
end Go.Proofs.Ytekhpiiediooiaa.C03
