/-
laws 18, plain: cells, their chain of spare ones, and what is done to them. No program.
-/
import Derived.Test.YtgdifegembfjoaaSxu
namespace Go.Proofs.Ytgdifegembfjoaa
open Sx Go.RowKit

structure Ce where
  v : Bool
  x : Int
  l : Int
  deriving DecidableEq
def ceD (c : Ce) : D := .agg [.bool c.v, .int .i64 c.x, .int .i64 c.l]
structure Ar where
  l : List Ce
  f : Int
  u : Int
  deriving DecidableEq
def arD (s : Ar) : D := .agg [.sl (s.l.map ceD), .int .i64 s.f, .int .i64 s.u]
def aPlace (l : List Ce) (n : Int) : Bool := decide (-1 ≤ n ∧ n < (l.length : Int))
def aStray (l : List Ce) (c : Ce) : Bool := !c.v && !aPlace l c.l
def aOdd (c : Ce) : Bool := if c.v then c.l != 0 else c.x != 0
def aN (l : List Ce) : Nat := (l.filter (·.v)).length
def linkAt (l : List Ce) (at_ : Int) : Int := ((l[at_.toNat]?).map (·.l)).getD 0
def liveAt (l : List Ce) (at_ : Int) : Bool := ((l[at_.toNat]?).map (·.v)).getD true
/-- The program's chain. -/
def aCh (l : List Ce) : Nat → Int → List Int → List Int × Bool
  | 0, _, out => (out, false)
  | n + 1, a, out => if a = -1 then (out, true) else if liveAt l a = true ∨ a ∈ out then (out, false) else aCh l n (linkAt l a) (out ++ [a])
/-- The document's chain. -/
def rCh (l : List Ce) : Nat → Int → List Int → List Int
  | 0, _, out => out
  | n + 1, a, out => if 0 ≤ a then rCh l n (linkAt l a) (out ++ [a]) else out
def chA (s : Ar) : List Int × Bool := aCh s.l (s.l.length + 1) s.f []
def chR (s : Ar) : List Int := rCh s.l (s.l.length + 1) s.f []
def aErr (s : Ar) : Bool := !(chA s).2 || decide ((aN s.l : Int) ≠ s.u) || decide (aN s.l + (chA s).1.length ≠ s.l.length)
def aChk (s : Ar) : Int :=
  if 64 < s.l.length then 5
  else if aPlace s.l s.f = false ∨ s.l.any (aStray s.l) = true then 8
  else if s.l.any aOdd = true then 4
  else if aErr s = true then 10 else 0
def isLive (s : Ar) (a : Int) : Bool := decide (0 ≤ a ∧ a < (s.l.length : Int)) && liveAt s.l a
def aTake (s : Ar) (v : Int) : Ar × Int × Int :=
  if aChk s ≠ 0 then (s, 0, aChk s) else if 64 ≤ s.u then (s, 0, 7)
  else if s.f = -1 then (⟨s.l ++ [⟨true, v, 0⟩], s.f, s.u + 1⟩, s.l.length, 0)
  else (⟨s.l.set s.f.toNat ⟨true, v, 0⟩, linkAt s.l s.f, s.u + 1⟩, s.f, 0)
def aGive (s : Ar) (a : Int) : Ar × Int :=
  if aChk s ≠ 0 then (s, aChk s) else if isLive s a = false then (s, 6) else (⟨s.l.set a.toNat ⟨false, 0, s.f⟩, a, s.u - 1⟩, 0)
def valAt (l : List Ce) (a : Int) : Int := ((l[a.toNat]?).map (·.x)).getD 0
def aGet (s : Ar) (a : Int) : Int × Bool := if isLive s a = true ∧ aChk s = 0 then (valAt s.l a, true) else (0, false)
def aSet (s : Ar) (a v : Int) : Ar × Int :=
  if aChk s ≠ 0 then (s, aChk s) else if isLive s a = false then (s, 6) else (⟨s.l.set a.toNat ⟨true, v, 0⟩, s.f, s.u⟩, 0)
def liveIx (l : List Ce) : List Nat := (List.range l.length).filter (fun i => liveAt l i)
def aLives (s : Ar) : List Nat := if aChk s = 0 then liveIx s.l else []
def aSpares (s : Ar) : List Int := if aChk s = 0 then (chA s).1 else []
/-! ### Chains -/
structure Pl (l : List Ce) : Prop where
  link : ∀ c ∈ l, -1 ≤ c.l ∧ c.l < (l.length : Int)
theorem link_pl {l : List Ce} (h : Pl l) {a : Int} (a0 : 0 ≤ a) (a1 : a < (l.length : Int)) : -1 ≤ linkAt l a ∧ linkAt l a < (l.length : Int) := by
  obtain ⟨n, rfl⟩ := Int.eq_ofNat_of_zero_le a0
  have hn : n < l.length := by omega
  unfold linkAt
  rw [Int.toNat_natCast, get_of hn]
  exact h.link _ (List.getElem_mem hn)
theorem nodup_nat : ∀ (n : Nat) (l : List Nat), l.Nodup → (∀ x ∈ l, x < n) → l.length ≤ n
  | 0, l, _, h => by
    cases l with
    | nil => simp
    | cons x r => exact absurd (h x (by simp)) (by omega)
  | n + 1, l, hd, h => by
    by_cases hm : n ∈ l
    · have h1 := nodup_nat n (l.erase n) (hd.erase n) (fun x hx => by
        have h2 := h x (List.mem_of_mem_erase hx)
        have h3 : x ≠ n := (hd.mem_erase_iff.1 hx).1
        omega)
      rw [List.length_erase_of_mem hm] at h1
      omega
    · have h1 := nodup_nat n l hd (fun x hx => by
        have h2 := h x hx
        have h3 : x ≠ n := fun e => hm (e ▸ hx)
        omega)
      omega
theorem nodup_int (n : Nat) (l : List Int) (hd : l.Nodup) (h : ∀ x ∈ l, 0 ≤ x ∧ x < (n : Int)) : l.length ≤ n := by
  have h1 := nodup_nat n (l.map Int.toNat) (by
    rw [List.Nodup, List.pairwise_map]
    refine List.Pairwise.imp_of_mem ?_ hd
    intro a b ha hb hab e
    have := h a ha
    have := h b hb
    exact hab (by omega)) (fun x hx => by
    obtain ⟨y, hy, rfl⟩ := List.mem_map.1 hx
    have := h y hy
    omega)
  simpa using h1
/-- The cells from one on, link by link, to the end. -/
def isCh (l : List Ce) : Int → List Int → Prop
  | a, [] => a = -1
  | a, x :: r => x = a ∧ 0 ≤ a ∧ a < (l.length : Int) ∧ liveAt l a = false ∧ isCh l (linkAt l a) r
theorem ch_mem {l : List Ce} : ∀ {sp : List Int} {a : Int}, isCh l a sp → ∀ x ∈ sp, 0 ≤ x ∧ x < (l.length : Int) ∧ liveAt l x = false
  | [], a, h, x, hx => by cases hx
  | y :: r, a, h, x, hx => by
    obtain ⟨rfl, h1, h2, h3, h4⟩ := h
    rcases List.mem_cons.1 hx with rfl | hx
    · exact ⟨h1, h2, h3⟩
    · exact ch_mem h4 x hx
theorem aCh_spec {l : List Ce} (hp : Pl l) : ∀ (n : Nat) (a : Int) (out : List Int), (-1 ≤ a ∧ a < (l.length : Int)) → out.Nodup → (∀ x ∈ out, 0 ≤ x ∧ x < (l.length : Int)) → n + out.length = l.length + 1 →
    ((aCh l n a out).2 = true → ∃ sp, (aCh l n a out).1 = out ++ sp ∧ isCh l a sp ∧ (out ++ sp).Nodup) ∧ (∀ sp, isCh l a sp → (out ++ sp).Nodup → aCh l n a out = (out ++ sp, true))
  | 0, a, out, ha, hd, ho, hn => by
    have := nodup_int l.length out hd ho
    omega
  | n + 1, a, out, ha, hd, ho, hn => by
    unfold aCh
    by_cases h1 : a = -1
    · subst h1
      rw [if_pos rfl]
      refine ⟨fun _ => ⟨[], by simp, rfl, by simpa using hd⟩, fun sp h _ => ?_⟩
      cases sp with
      | nil => simp
      | cons x r => exact absurd h.2.1 (by omega)
    · rw [if_neg h1]
      by_cases h2 : liveAt l a = true ∨ a ∈ out
      · rw [if_pos h2]
        refine ⟨fun h => by simp at h, fun sp h hnd => ?_⟩
        cases sp with
        | nil => exact absurd h h1
        | cons x r =>
          obtain ⟨rfl, -, -, h3, -⟩ := h
          rcases h2 with h2 | h2
          · rw [h3] at h2; cases h2
          · rw [List.nodup_append] at hnd
            exact absurd rfl (hnd.2.2 _ h2 _ (by simp))
      · rw [if_neg h2]
        have h3 : liveAt l a = false := by cases hl : liveAt l a; rfl; exact absurd (.inl hl) h2
        have h4 : a ∉ out := fun h => h2 (.inr h)
        have hd' : (out ++ [a]).Nodup := by
          rw [List.nodup_append]
          exact ⟨hd, by simp, fun x hx y hy => by rw [List.mem_singleton.1 hy]; exact fun e => h4 (e ▸ hx)⟩
        have ho' : ∀ x ∈ out ++ [a], 0 ≤ x ∧ x < (l.length : Int) := fun x hx => by
          rcases List.mem_append.1 hx with hx | hx
          · exact ho x hx
          · rw [List.mem_singleton.1 hx]; omega
        obtain ⟨i1, i2⟩ := aCh_spec hp n (linkAt l a) (out ++ [a]) (link_pl hp (by omega) ha.2) hd' ho' (by simp; omega)
        refine ⟨fun h => ?_, fun sp h hnd => ?_⟩
        · obtain ⟨sp, e1, e2, e3⟩ := i1 h
          exact ⟨a :: sp, by rw [e1]; simp, ⟨rfl, by omega, ha.2, h3, e2⟩, by simpa using e3⟩
        · cases sp with
          | nil => exact absurd h h1
          | cons x r =>
            obtain ⟨rfl, -, -, -, h5⟩ := h
            rw [i2 r h5 (by simpa using hnd)]
            simp
theorem aCh_len (l : List Ce) : ∀ (n : Nat) (a : Int) (out : List Int), (aCh l n a out).1.length ≤ out.length + n
  | 0, a, out => by simp [aCh]
  | n + 1, a, out => by
    unfold aCh
    split
    · simp
    · split
      · simp
      · have := aCh_len l n (linkAt l a) (out ++ [a]); simp at this; omega
theorem rCh_out (l : List Ce) : ∀ (n : Nat) (a : Int) (out : List Int), ∃ r, rCh l n a out = out ++ r
  | 0, a, out => ⟨[], by simp [rCh]⟩
  | n + 1, a, out => by
    unfold rCh
    split
    · obtain ⟨r, h⟩ := rCh_out l n (linkAt l a) (out ++ [a])
      exact ⟨a :: r, by rw [h]; simp⟩
    · exact ⟨[], by simp⟩
theorem rCh_len (l : List Ce) : ∀ (n : Nat) (a : Int) (out : List Int), (rCh l n a out).length ≤ out.length + n
  | 0, a, out => by simp [rCh]
  | n + 1, a, out => by
    unfold rCh
    split
    · have := rCh_len l n (linkAt l a) (out ++ [a]); simp at this; omega
    · omega
theorem rCh_spec {l : List Ce} (hp : Pl l) : ∀ (n : Nat) (a : Int) (out : List Int), (-1 ≤ a ∧ a < (l.length : Int)) →
    (∀ sp, isCh l a sp → sp.length < n → rCh l n a out = out ++ sp) ∧ (∀ sp, rCh l n a out = out ++ sp → sp.length < n → (∀ x ∈ sp, liveAt l x = false) → isCh l a sp)
  | 0, a, out, ha => ⟨fun sp _ h => by omega, fun sp _ h => by omega⟩
  | n + 1, a, out, ha => by
    unfold rCh
    by_cases h : 0 ≤ a
    · rw [if_pos h]
      obtain ⟨i1, i2⟩ := rCh_spec hp n (linkAt l a) (out ++ [a]) (link_pl hp h ha.2)
      refine ⟨fun sp hs hl => ?_, fun sp hs hl hv => ?_⟩
      · cases sp with
        | nil => have : a = -1 := hs; omega
        | cons x r =>
          obtain ⟨rfl, -, -, -, h5⟩ := hs
          rw [i1 r h5 (by simp at hl; omega)]
          simp
      · obtain ⟨r, hr⟩ := rCh_out l n (linkAt l a) (out ++ [a])
        have e : sp = a :: r := by
          rw [hr] at hs
          have : out ++ (a :: r) = out ++ sp := by rw [← hs]; simp
          exact (List.append_cancel_left this).symm
        subst e
        refine ⟨rfl, h, ha.2, hv a (by simp), i2 r hr (by simp at hl; omega) (fun x hx => hv x (by simp [hx]))⟩
    · rw [if_neg h]
      refine ⟨fun sp hs _ => ?_, fun sp hs _ _ => ?_⟩
      · cases sp with
        | nil => simp
        | cons x r => exact absurd hs.2.1 h
      · have e : sp = [] := by
          have : out ++ [] = out ++ sp := by rw [← hs]; simp
          exact (List.append_cancel_left this).symm
        subst e
        show a = -1
        omega
theorem aN_le (l : List Ce) : aN l ≤ l.length := List.length_filter_le _ _
/-- The two ways to tell that all is well. -/
theorem err_iff {s : Ar} (hp : Pl s.l) (hf : -1 ≤ s.f ∧ s.f < (s.l.length : Int)) :
    aErr s = true ↔ (s.u ≠ (aN s.l : Int) ∨ ((chR s).length : Int) ≠ (s.l.length : Int) - aN s.l ∨ (∃ x ∈ chR s, liveAt s.l x = true) ∨ ¬(chR s).Nodup) := by
  have hle := aN_le s.l
  obtain ⟨a1, a2⟩ := aCh_spec hp (s.l.length + 1) s.f [] hf (by simp) (by simp) (by simp)
  obtain ⟨r1, r2⟩ := rCh_spec hp (s.l.length + 1) s.f [] hf
  have hchA : aCh s.l (s.l.length + 1) s.f [] = chA s := rfl
  have hchR : rCh s.l (s.l.length + 1) s.f [] = chR s := rfl
  rw [hchA] at a1 a2
  rw [hchR] at r1 r2
  unfold aErr
  simp only [List.nil_append] at a1 a2 r1 r2
  constructor
  · intro h
    apply Classical.byContradiction
    intro hn
    have hu : s.u = (aN s.l : Int) := Classical.byContradiction fun h => hn (.inl h)
    have hr : ((chR s).length : Int) = (s.l.length : Int) - aN s.l := Classical.byContradiction fun h => hn (.inr (.inl h))
    have hv : ∀ x ∈ chR s, liveAt s.l x = false := fun x hx => by cases hl : liveAt s.l x; rfl; exact absurd (.inr (.inr (.inl ⟨x, hx, hl⟩))) hn
    have hd : (chR s).Nodup := Classical.byContradiction fun h => hn (.inr (.inr (.inr h)))
    have hc := r2 (chR s) rfl (by omega) hv
    have e := a2 _ hc hd
    rw [e] at h
    simp at h
    omega
  · intro h
    cases hw : (chA s).2
    · simp
    · obtain ⟨sp, e1, e2, e3⟩ := a1 hw
      have hl : sp.length ≤ s.l.length := nodup_int _ _ e3 fun x hx => by have := ch_mem e2 x hx; exact ⟨this.1, this.2.1⟩
      have hR := r1 sp e2 (by omega)
      rw [hR] at h
      rw [e1]
      rcases h with h | h | ⟨x, hx, h⟩ | h
      · simp; omega
      · simp; omega
      · rw [(ch_mem e2 x hx).2.2] at h; cases h
      · exact absurd e3 h
theorem pl_of {s : Ar} (h1 : aPlace s.l s.f = true) (h2 : s.l.any (aStray s.l) = false) (h3 : s.l.any aOdd = false) : Pl s.l ∧ -1 ≤ s.f ∧ s.f < (s.l.length : Int) := by
  refine ⟨⟨fun c hc => ?_⟩, of_decide_eq_true h1⟩
  rw [List.any_eq_false] at h2 h3
  have a := h2 c hc
  have b := h3 c hc
  have hpos := List.length_pos_of_mem hc
  unfold aStray aPlace at a
  unfold aOdd at b
  cases hv : c.v
  · rw [hv] at a
    simp at a
    omega
  · rw [hv] at b
    simp at b
    omega
structure Ok (s : Ar) (sp : List Int) : Prop where
  len : s.l.length ≤ 64
  f : -1 ≤ s.f ∧ s.f < (s.l.length : Int)
  pl : Pl s.l
  odd : ∀ c ∈ s.l, aOdd c = false
  ch : isCh s.l s.f sp
  nd : sp.Nodup
  u : s.u = (aN s.l : Int)
  all : aN s.l + sp.length = s.l.length
theorem chk_ok {s : Ar} : aChk s = 0 ↔ ∃ sp, Ok s sp := by
  unfold aChk
  constructor
  · intro h
    split at h
    · omega
    split at h
    · omega
    split at h
    · omega
    split at h
    · omega
    next h1 h2 h3 h4 =>
    have hp : aPlace s.l s.f = true := by cases g : aPlace s.l s.f; exact absurd (.inl g) h2; rfl
    have hs : s.l.any (aStray s.l) = false := by cases g : s.l.any (aStray s.l); rfl; exact absurd (.inr g) h2
    have ho : s.l.any aOdd = false := by cases g : s.l.any aOdd; rfl; exact absurd g h3
    obtain ⟨p1, p2⟩ := pl_of hp hs ho
    unfold aErr at h4
    simp at h4
    obtain ⟨⟨w1, w2⟩, w3⟩ := h4
    obtain ⟨a1, -⟩ := aCh_spec p1 (s.l.length + 1) s.f [] p2 (by simp) (by simp) (by simp)
    obtain ⟨sp, e1, e2, e3⟩ := a1 w1
    have e1 : (chA s).1 = sp := by rw [List.nil_append] at e1; exact e1
    rw [e1] at w3
    exact ⟨sp, by omega, p2, p1, fun c hc => by rw [List.any_eq_false] at ho; simpa using ho c hc, e2, by simpa using e3, w2.symm, w3⟩
  · rintro ⟨sp, a, b, c, d, e, f, g, i⟩
    have h1 : aPlace s.l s.f = true := decide_eq_true b
    have h2 : s.l.any (aStray s.l) = false := by
      rw [List.any_eq_false]
      intro x hx
      have : aPlace s.l x.l = true := decide_eq_true (c.link x hx)
      unfold aStray
      rw [this]; simp
    have h3 : s.l.any aOdd = false := by rw [List.any_eq_false]; intro x hx; rw [d x hx]; simp
    have h4 : chA s = (sp, true) := by
      have := (aCh_spec c (s.l.length + 1) s.f [] b (by simp) (by simp) (by simp)).2 sp e (by simpa using f)
      rw [List.nil_append] at this; exact this
    have h5 : aErr s = false := by unfold aErr; rw [h4]; simp; omega
    rw [if_neg (by omega), if_neg (by rw [h1, h2]; simp), if_neg (by rw [h3]; simp), if_neg (by rw [h5]; simp)]
theorem ok_ch {s : Ar} {sp : List Int} (h : Ok s sp) : chA s = (sp, true) := by
  have := (aCh_spec h.pl (s.l.length + 1) s.f [] h.f (by simp) (by simp) (by simp)).2 sp h.ch (by simpa using h.nd)
  rw [List.nil_append] at this; exact this
theorem ok_chR {s : Ar} {sp : List Int} (h : Ok s sp) : chR s = sp := by
  have hl : sp.length ≤ s.l.length := by have := h.all; omega
  have := (rCh_spec h.pl (s.l.length + 1) s.f [] h.f).1 sp h.ch (by omega)
  rw [List.nil_append] at this; exact this
end Go.Proofs.Ytgdifegembfjoaa
