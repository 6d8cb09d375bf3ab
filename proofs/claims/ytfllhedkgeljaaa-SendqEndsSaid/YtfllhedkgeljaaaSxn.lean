/-
Regions whose order the model draws: every order that it may draw comes to the same. No condition.
-/
import Derived.Test.YtfllhedkgeljaaaSxm
import Derived.Orders
set_option linter.unusedSimpArgs false
set_option linter.unusedVariables false
namespace Go.Proofs.Ytfllhedkgeljaaa
namespace Sx
open Go.RowKit
section
variable {P : Program} {F : FnRel} {ops : Array Oper} {hs : List (Nat × OH)}

/-- `i` stands ahead of `j`. -/
def Bef (L : List Nat) (i j : Nat) : Prop := ∃ A B C, L = A ++ i :: (B ++ j :: C)

theorem Bef.cons {L : List Nat} {i j x : Nat} (h : Bef L i j) : Bef (x :: L) i j := by
  obtain ⟨A, B, C, rfl⟩ := h
  exact ⟨x :: A, B, C, rfl⟩
theorem Bef.head {L : List Nat} {x j : Nat} (h : j ∈ L) : Bef (x :: L) x j := by
  obtain ⟨B, C, rfl⟩ := List.append_of_mem h
  exact ⟨[], B, C, rfl⟩
theorem Bef.mem {L : List Nat} {i j : Nat} (h : Bef L i j) : i ∈ L ∧ j ∈ L := by
  obtain ⟨A, B, C, rfl⟩ := h; simp
theorem Bef.left {A B : List Nat} {i j : Nat} (hi : i ∈ A) (hj : j ∈ B) : Bef (A ++ B) i j := by
  obtain ⟨A1, A2, rfl⟩ := List.append_of_mem hi
  obtain ⟨B1, B2, rfl⟩ := List.append_of_mem hj
  exact ⟨A1, A2 ++ B1, B2, by simp⟩
theorem Bef.insert {A B : List Nat} {i j x : Nat} (h : Bef (A ++ B) i j) : Bef (A ++ x :: B) i j := by
  induction A with
  | nil => exact h.cons
  | cons a r ih =>
    obtain ⟨A', B', C', he⟩ := h
    cases A' with
    | nil =>
      simp only [List.nil_append, List.cons_append, List.cons.injEq] at he
      obtain ⟨rfl, he⟩ := he
      refine Bef.head ?_
      have : j ∈ r ++ B := by rw [he]; simp
      rcases List.mem_append.1 this with h | h <;> simp [h]
    | cons a' A'' =>
      simp only [List.cons_append, List.cons.injEq] at he
      exact (ih ⟨A'', B', C', he.2⟩).cons

theorem bubble {fp : Nat → FP} {x : Nat} {B : List Nat} : ∀ (A : List Nat) {S S' : AS}, (∀ a ∈ A, (fp a).apart (fp x) = true) → RunR P F ops hs fp (A ++ x :: B) S S' → RunR P F ops hs fp (x :: (A ++ B)) S S'
  | [], _, _, _, h => h
  | a :: A, S, S', hap, h => by
    obtain ⟨S1, ob1, h1, hp1, hr⟩ := h
    exact swap_ok (hap a (by simp)) ⟨S1, ob1, h1, hp1, bubble A (fun b hb => hap b (by simp [hb])) hr⟩

theorem reorder {fp : Nat → FP} : ∀ (π L : List Nat) {S S' : AS}, π.Perm L → (∀ i j, Bef L i j → Bef π j i → (fp i).apart (fp j) = true) → RunR P F ops hs fp L S S' → RunR P F ops hs fp π S S'
  | [], L, S, S', hp, _, h => by rw [List.nil_perm.1 hp] at h; exact h
  | x :: π, L, S, S', hp, hap, h => by
    have hx : x ∈ L := hp.subset (by simp)
    obtain ⟨A, B, rfl⟩ := List.append_of_mem hx
    have hp' : π.Perm (A ++ B) := by
      have := hp.trans (List.perm_middle (l₁ := A) (l₂ := B) (a := x))
      exact List.Perm.cons_inv this
    obtain ⟨S1, ob1, h1, hp1, hr⟩ := bubble A (fun a ha => by
      refine hap a x (Bef.left ha (by simp)) (Bef.head ?_)
      exact hp'.symm.subset (by simp [ha])) h
    exact ⟨S1, ob1, h1, hp1, reorder π (A ++ B) hp' (fun i j hi hj => hap i j hi.insert hj.cons) hr⟩

/-! ### The orders that may be drawn -/

def direct (ops : Array Oper) (i j : Nat) : Prop := ∃ o e, ops[j]? = some o ∧ e ∈ o.after ∧ Region.binds .any e = true ∧ e.on = i
inductive Anc (ops : Array Oper) : Nat → Nat → Prop
  | one {i j : Nat} (h : direct ops i j) : Anc ops i j
  | step {i k j : Nat} (h : Anc ops i k) (r : direct ops k j) : Anc ops i j

/-- Every edge leads back in the text. -/
def edgesBack (ops : Array Oper) : Bool := ops.toList.zipIdx.all fun (o, i) => o.after.toList.all fun e => !Region.binds .any e || decide (e.on < i)
theorem edgesBack_spec (h : edgesBack ops = true) {i j : Nat} (hd : direct ops i j) : i < j := by
  obtain ⟨o, e, ho, he, hb, rfl⟩ := hd
  have h1 : (o, j) ∈ ops.toList.zipIdx := by
    rw [List.mem_iff_getElem?]
    exact ⟨j, by rw [List.getElem?_zipIdx, Array.getElem?_toList, ho]; simp⟩
  have := List.all_eq_true.1 (List.all_eq_true.1 h _ h1) e (by simpa using he)
  simpa [hb] using this

/-- A list in which whatever an operation waits for stands ahead of it. -/
def Sorted' (ops : Array Oper) (acc L : List Nat) : Prop := ∀ A j B, L = A ++ j :: B → ∀ i, direct ops i j → i ∈ acc ∨ i ∈ A

theorem mem_ready' {listed : Array Bool} {j : Nat} (hj : j ∈ Region.ready .any ops listed) : listed.getD j true = false ∧ j < ops.size ∧ ∀ i, direct ops i j → listed.getD i false = true := by
  obtain ⟨h1, o, ho, h2⟩ := mem_ready.1 hj
  refine ⟨h1, (Array.getElem?_eq_some_iff.1 ho).1, fun i hd => ?_⟩
  obtain ⟨o', e, ho', he, hb, rfl⟩ := hd
  rw [ho] at ho'
  cases ho'
  exact h2 e he hb

theorem getD_set {listed : Array Bool} {i j : Nat} {d : Bool} (hi : i < listed.size) : (listed.setIfInBounds i true).getD j d = if i = j then true else listed.getD j d := by
  simp only [Array.getD_eq_getD_getElem?, Array.getElem?_setIfInBounds]
  by_cases h : i = j
  · subst h; simp [hi]
  · simp [h]

theorem go_spec (hback : edgesBack ops = true) : ∀ (fuel t : Nat) (listed : Array Bool) (acc : List Nat), listed.size = ops.size → (∀ i, i < ops.size → (listed.getD i false = true ↔ i ∈ acc)) → acc.Nodup → (∀ i ∈ acc, i < ops.size) → ops.size ≤ fuel + acc.length →
    (acc ++ Region.linearise.go .any ops fuel t listed []).Perm (List.range ops.size) ∧ Sorted' ops acc (Region.linearise.go .any ops fuel t listed []) := by
  intro fuel
  induction fuel with
  | zero =>
    intro t listed acc hsz hl hnd hlt hfuel
    simp only [Region.linearise.go, List.reverse_nil, List.append_nil]
    refine ⟨?_, fun A j B h => by simp at h⟩
    rw [List.perm_ext_iff_of_nodup hnd List.nodup_range]
    refine fun n => ⟨fun hn => List.mem_range.2 (hlt n hn), fun hn => ?_⟩
    by_cases hm : n ∈ acc
    · exact hm
    · exfalso
      have h1 : (n :: acc).Nodup := List.nodup_cons.2 ⟨hm, hnd⟩
      have h2 : (n :: acc) ⊆ List.range ops.size := fun x hx => by
        rcases List.mem_cons.1 hx with h | h
        · rw [h]; exact hn
        · exact List.mem_range.2 (hlt x h)
      have h3 := h1.length_le_of_subset h2
      simp at h3 hfuel
      omega
  | succ fuel ih =>
    intro t listed acc hsz hl hnd hlt hfuel
    simp only [Region.linearise.go]
    change (acc ++ (match (Region.ready .any ops listed)[t % (Region.ready .any ops listed).length]? with
      | some i => Region.linearise.go .any ops fuel (t / (Region.ready .any ops listed).length) (listed.setIfInBounds i true) [i]
      | none => [].reverse)).Perm _ ∧ Sorted' ops acc (match (Region.ready .any ops listed)[t % (Region.ready .any ops listed).length]? with
      | some i => Region.linearise.go .any ops fuel (t / (Region.ready .any ops listed).length) (listed.setIfInBounds i true) [i]
      | none => [].reverse)
    cases hi : (Region.ready .any ops listed)[t % (Region.ready .any ops listed).length]? with
    | none =>
      simp only [List.reverse_nil, List.append_nil]
      refine ⟨?_, fun A j B h => by simp at h⟩
      have hnil : Region.ready .any ops listed = [] := by
        cases hr : Region.ready .any ops listed with
        | nil => rfl
        | cons x xs =>
          rw [hr] at hi
          have hlt : t % (x :: xs).length < (x :: xs).length := Nat.mod_lt _ (by simp)
          simp at hi
          simp at hlt
          omega
      have hall : ∀ n, n < ops.size → n ∈ acc := by
        intro n
        induction n using Nat.strongRecOn with
        | ind n ihn =>
          intro hn
          by_cases hm : n ∈ acc
          · exact hm
          · exfalso
            have hf : listed.getD n false = false := by
              cases hq : listed.getD n false with
              | false => rfl
              | true => exact absurd ((hl n hn).1 hq) hm
            have hf2 : listed.getD n true = false := by
              rw [Array.getD_eq_getD_getElem?] at hf ⊢
              rw [Array.getElem?_eq_getElem (by omega)] at hf ⊢
              simpa using hf
            have : n ∈ Region.ready .any ops listed := by
              rw [mem_ready]
              refine ⟨hf2, ops[n], by simp [hn], fun e he hb => ?_⟩
              have hd : direct ops e.on n := ⟨ops[n], e, by simp [hn], he, hb, rfl⟩
              have hlt' := edgesBack_spec hback hd
              exact (hl e.on (by omega)).2 (ihn e.on hlt' (by omega))
            rw [hnil] at this
            cases this
      rw [List.perm_ext_iff_of_nodup hnd List.nodup_range]
      exact fun n => ⟨fun hn => List.mem_range.2 (hlt n hn), fun hn => hall n (List.mem_range.1 hn)⟩
    | some i =>
      have hir := List.mem_of_getElem? hi
      obtain ⟨k1, k2, k3⟩ := mem_ready' hir
      have hia : i ∉ acc := fun hm => by
        have := (hl i k2).2 hm
        rw [Array.getD_eq_getD_getElem?] at this k1
        rw [Array.getElem?_eq_getElem (by omega)] at this k1
        simp at this k1
        rw [this] at k1
        cases k1
      simp only
      rw [linearise_go_acc, List.reverse_singleton, List.singleton_append]
      obtain ⟨h1, h2⟩ := ih (t / (Region.ready .any ops listed).length) (listed.setIfInBounds i true) (acc ++ [i]) (by simpa using hsz)
        (fun j hj => by
          rw [getD_set (by omega)]
          by_cases hij : i = j
          · simp [hij]
          · rw [if_neg hij, hl j hj]; simp [Ne.symm hij])
        (by rw [List.nodup_append]; exact ⟨hnd, by simp, fun a ha b hb => by rw [List.mem_singleton.1 hb]; exact fun e => hia (e ▸ ha)⟩)
        (fun j hj => by
          rcases List.mem_append.1 hj with h | h
          · exact hlt j h
          · rw [List.mem_singleton.1 h]; exact k2)
        (by simp; omega)
      refine ⟨by simpa using h1, fun A j B he a ha => ?_⟩
      cases A with
      | nil =>
        simp only [List.nil_append, List.cons.injEq] at he
        obtain ⟨rfl, -⟩ := he
        have hlt' := edgesBack_spec hback ha
        exact .inl ((hl a (by omega)).1 (k3 a ha))
      | cons b A' =>
        simp only [List.cons_append, List.cons.injEq] at he
        obtain ⟨rfl, he⟩ := he
        rcases h2 A' j B he a ha with h | h
        · rcases List.mem_append.1 h with h | h
          · exact .inl h
          · exact .inr (by rw [List.mem_singleton.1 h]; simp)
        · exact .inr (by simp [h])

theorem linearise_spec (hback : edgesBack ops = true) (t : Nat) : (Region.linearise .any ops t).Perm (List.range ops.size) ∧ Sorted' ops [] (Region.linearise .any ops t) := by
  have := go_spec hback ops.size t (Array.replicate ops.size false) [] (by simp) (fun i hi => by simp [Array.getD_eq_getD_getElem?, hi]) List.nodup_nil (by simp) (by simp)
  simpa [Region.linearise] using this

theorem split_eq {k : Nat} : ∀ {A C B D : List Nat}, A ++ k :: B = C ++ k :: D → k ∉ A → k ∉ C → A = C
  | [], [], _, _, _, _, _ => rfl
  | [], c :: C, _, _, h, _, hc => by
    simp only [List.nil_append, List.cons_append, List.cons.injEq] at h
    exact absurd (by simp [h.1]) hc
  | a :: A, [], _, _, h, ha, _ => by
    simp only [List.nil_append, List.cons_append, List.cons.injEq] at h
    exact absurd (by simp [h.1]) ha
  | a :: A, c :: C, _, _, h, ha, hc => by
    simp only [List.cons_append, List.cons.injEq] at h
    rw [h.1, split_eq h.2 (fun hm => ha (by simp [hm])) (fun hm => hc (by simp [hm]))]

theorem anc_before {π : List Nat} (hs : Sorted' ops [] π) (hnd : π.Nodup) {i j : Nat} (h : Anc ops i j) : j ∈ π → Bef π i j := by
  induction h with
  | @one j hd =>
    intro hj
    obtain ⟨A, B, rfl⟩ := List.append_of_mem hj
    rcases hs A j B rfl _ hd with h | h
    · cases h
    · obtain ⟨A1, A2, rfl⟩ := List.append_of_mem h
      exact ⟨A1, A2, B, by simp⟩
  | @step k j _ hd ih =>
    intro hj
    obtain ⟨A, B, rfl⟩ := List.append_of_mem hj
    rcases hs A j B rfl _ hd with h | h
    · cases h
    · obtain ⟨A1, B1, C1, he⟩ := ih (by simp [h])
      -- k stands in A, so does i
      have hkA : k ∈ A := h
      obtain ⟨A2, A3, rfl⟩ := List.append_of_mem hkA
      have hkeq : A1 ++ i :: B1 = A2 := by
        have e1 : (A1 ++ i :: B1) ++ k :: C1 = A2 ++ k :: (A3 ++ j :: B) := by simpa using he.symm
        have hnd2 : ((A1 ++ i :: B1) ++ k :: C1).Nodup := by rw [e1]; simpa using hnd
        have hnd3 : (A2 ++ k :: (A3 ++ j :: B)).Nodup := by simpa using hnd
        have n1 : k ∉ A1 ++ i :: B1 := fun hm => by
          rw [List.nodup_append] at hnd2
          exact hnd2.2.2 k hm k (by simp) rfl
        have n2 : k ∉ A2 := fun hm => by
          rw [List.nodup_append] at hnd3
          exact hnd3.2.2 k hm k (by simp) rfl
        exact split_eq e1 n1 n2
      subst hkeq
      exact ⟨A1, B1 ++ k :: A3, B, by simp⟩

/-! ### Which operations wait for which -/

def maskOf (acc : List Nat) : List Edge → Nat
  | [] => 0
  | e :: r => if Region.binds .any e then (maskOf acc r ||| 2 ^ e.on) ||| acc.getD e.on 0 else maskOf acc r
def masks : List Oper → List Nat → List Nat
  | [], acc => acc
  | o :: r, acc => masks r (acc ++ [maskOf acc o.after.toList])

theorem maskOf_spec {acc : List Nat} {j : Nat} {o : Oper} (ho : ops[j]? = some o) (hacc : ∀ k i, (acc.getD k 0).testBit i = true → Anc ops i k) :
    ∀ (l : List Edge), (∀ e ∈ l, e ∈ o.after) → ∀ i, (maskOf acc l).testBit i = true → Anc ops i j
  | [], _, i, h => by simp [maskOf] at h
  | e :: r, hl, i, h => by
    unfold maskOf at h
    split at h
    · next hb =>
      have hd : direct ops e.on j := ⟨o, e, ho, hl e (by simp), hb, rfl⟩
      rw [Nat.testBit_or, Nat.testBit_or] at h
      simp only [Bool.or_eq_true] at h
      rcases h with (h | h) | h
      · exact maskOf_spec ho hacc r (fun e he => hl e (by simp [he])) i h
      · rw [Nat.testBit_two_pow] at h
        have : e.on = i := by simpa using h
        rw [← this]
        exact .one hd
      · exact .step (hacc e.on i h) hd
    · exact maskOf_spec ho hacc r (fun e he => hl e (by simp [he])) i h

theorem masks_spec : ∀ (l : List Oper) (acc : List Nat), (∀ k o, l[k]? = some o → ops[acc.length + k]? = some o) → (∀ k i, (acc.getD k 0).testBit i = true → Anc ops i k) → ∀ k i, ((masks l acc).getD k 0).testBit i = true → Anc ops i k
  | [], acc, _, hacc => hacc
  | o :: r, acc, hl, hacc => by
    refine masks_spec r (acc ++ [maskOf acc o.after.toList]) (fun k x hx => ?_) (fun k i h => ?_)
    · have := hl (k + 1) x (by simpa using hx)
      simpa [Nat.add_assoc, Nat.add_comm 1 k] using this
    · rw [List.getD_eq_getElem?_getD] at h
      by_cases hk : k < acc.length
      · rw [List.getElem?_append_left hk, ← List.getD_eq_getElem?_getD] at h
        exact hacc k i h
      · rw [List.getElem?_append_right (by omega)] at h
        by_cases hk2 : k = acc.length
        · subst hk2
          simp only [Nat.sub_self, List.getElem?_cons_zero, Option.getD_some] at h
          have ho := hl 0 o rfl
          exact maskOf_spec ho hacc _ (fun e he => by simpa using he) i h
        · have : ([maskOf acc o.after.toList] : List Nat)[k - acc.length]? = none := by
            rw [List.getElem?_eq_none_iff]; simp; omega
          rw [this] at h
          simp at h

instance : Inhabited FP := ⟨⟨[], none, [], []⟩⟩

def pairsOK (ops : Array Oper) (fps : List FP) : Bool :=
  let ms := masks ops.toList []
  (List.range ops.size).all fun j => (List.range j).all fun i => (ms.getD j 0).testBit i || (fps.getD i default).apart (fps.getD j default)

/-- The operations in the order of the text. -/
def runT (P : Program) (F : FnRel) (ops : Array Oper) (hs : List (Nat × OH)) : List Nat → AS → Option (AS × List Prop × List FP)
  | [], S => some (S, [], [])
  | i :: r, S =>
    match stepOp P F ops hs i S with
    | some (S1, ob, f) =>
      match runT P F ops hs r S1 with
      | some (S2, obs, fs) => some (S2, ob ++ obs, f :: fs)
      | none => none
    | none => none

theorem runT_ok : ∀ (n k : Nat) {S S' : AS} {obs : List Prop} {fs : List FP} (fp : Nat → FP), runT P F ops hs (List.range' k n) S = some (S', obs, fs) → (∀ p ∈ obs, p) → (∀ i, i < n → fp (k + i) = fs.getD i default) →
    RunR P F ops hs fp (List.range' k n) S S'
  | 0, k, S, S', obs, fs, fp, h, _, _ => by simp only [List.range'_zero, runT] at h; cases h; rfl
  | n + 1, k, S, S', obs, fs, fp, h, hob, hfp => by
    rw [List.range'_succ] at h ⊢
    unfold runT at h
    split at h
    · next S1 ob f h1 =>
      split at h
      · next S2 obs2 fs2 h2 =>
        simp only [Option.some.injEq, Prod.mk.injEq] at h
        obtain ⟨rfl, rfl, rfl⟩ := h
        refine ⟨S1, ob, ?_, fun p hp => hob p (by simp [hp]), runT_ok n (k + 1) fp h2 (fun p hp => hob p (by simp [hp])) fun i hi => ?_⟩
        · have := hfp 0 (by omega)
          simp at this
          rw [this]; exact h1
        · have := hfp (i + 1) (by omega)
          rw [show k + 1 + i = k + (i + 1) by omega, this]
          simp [List.getD_eq_getElem?_getD]
      · cases h
    · cases h

def regEv (P : Program) (F : FnRel) (ops : Array Oper) (draw : Bool) (hs : List (Nat × OH)) (S : AS) : Option (AS × List Prop) :=
  match runT P F ops hs (List.range ops.size) S with
  | some (S', obs, fps) => if !draw || (P.follows .mixedOrders && edgesBack ops && pairsOK ops fps) then some (S', obs) else none
  | none => none

theorem region_ok {id : Nat} {draw : Bool} {S S' : AS} {obs : List Prop} {β : Nat → HE} {X : Nat → Prop} {a : Act} {w : World} {Q : Exit → Act → World → Prop} (h : regEv P (FnOK P) ops draw hs S = some (S', obs)) (hob : ∀ p ∈ obs, p) (hR : Rel S β X a w)
    (hQ : ∀ a' w' β', Rel S' β' X a' w' → Step S.O S'.O β β' w w' → Q .normal a' w') : (Code.region id ops draw).wp P Q a w := by
  unfold regEv at h
  split at h
  · next S2 obs2 fps h1 =>
    split at h
    · next hc =>
      cases h
      rw [List.range_eq_range'] at h1
      have hrun := runT_ok ops.size 0 (fun i => fps.getD i default) h1 hob (fun i hi => by simp)
      cases draw with
      | false =>
        refine wp_region ?_
        rw [List.range_eq_range']
        exact run_ok _ hrun hR hQ
      | true =>
        simp only [Bool.not_true, Bool.false_or, Bool.and_eq_true] at hc
        obtain ⟨⟨hm, hback⟩, hpairs⟩ := hc
        refine wp_region_draw fun t => ?_
        have hs : Region.schedule (P.follows .mixedOrders) ops t = Region.linearise .any ops t := by simp [Region.schedule, hm]
        rw [hs]
        obtain ⟨hp, hsort⟩ := linearise_spec hback t
        rw [← List.range_eq_range'] at hrun
        have hnd : (Region.linearise .any ops t).Nodup := hp.symm.nodup List.nodup_range
        have hrun2 := reorder _ _ hp (fun i j hij hji => by
          obtain ⟨hi, hj⟩ := hij.mem
          have hlt : i < j := by
            obtain ⟨A, B, C, he⟩ := hij
            have hsorted : (A ++ i :: (B ++ j :: C)).Pairwise (· < ·) := by rw [← he]; exact List.pairwise_lt_range
            rw [List.pairwise_append] at hsorted
            have := hsorted.2.1
            rw [List.pairwise_cons] at this
            exact this.1 j (by simp)
          have := List.all_eq_true.1 (List.all_eq_true.1 hpairs j hj) i (List.mem_range.2 hlt)
          simp only [Bool.or_eq_true] at this
          rcases this with h | h
          · exfalso
            have hanc := masks_spec (ops := ops) ops.toList [] (fun k o hk => by simpa using hk) (fun k i h => by simp at h) j i h
            have hb := anc_before hsort hnd hanc hji.mem.1
            -- both orders at once
            obtain ⟨A, B, C, he⟩ := hb
            obtain ⟨A2, B2, C2, he2⟩ := hji
            rw [he] at hnd he2
            have e1 : A ++ i :: (B ++ j :: C) = (A2 ++ j :: B2) ++ i :: C2 := by simpa using he2
            have n1 : i ∉ A := fun hm => by rw [List.nodup_append] at hnd; exact hnd.2.2 i hm i (by simp) rfl
            have hnd2 : ((A2 ++ j :: B2) ++ i :: C2).Nodup := by rw [← e1]; exact hnd
            have n2 : i ∉ A2 ++ j :: B2 := fun hm => by rw [List.nodup_append] at hnd2; exact hnd2.2.2 i hm i (by simp) rfl
            have e2 := split_eq e1 n1 n2
            rw [e2, List.nodup_append] at hnd
            exact hnd.2.2 j (by simp) j (by simp) rfl
          · exact h) hrun
        exact run_ok (w := { w with drawn := w.drawn + 1 }) _ hrun2 ⟨hR.size, hR.defers, fun t => (hR.slots t).mono (T := fun _ => False) ((Evo.refl _ w).drew) (fun _ h => h.elim) (fun b hb => .inl hb) (fun o ho => ⟨ho, .inl rfl⟩),
          ⟨fun o => (hR.objs.rel o).mono (T := fun _ => False) ((Evo.refl _ w).drew) (fun _ h => h.elim) (fun b hb => .inl hb) (fun o ho => ⟨ho, .inl rfl⟩) (fun _ _ => rfl), hR.objs.inj, hR.objs.priv, hR.objs.xlt⟩⟩
          fun a' w' β' hR' hst => hQ a' w' β' hR' ⟨⟨hst.evo.os, hst.evo.tape, hst.evo.output, hst.evo.size, hst.evo.block⟩, hst.keep, hst.new⟩
    · cases h
  · cases h
end
end Sx
end Go.Proofs.Ytfllhedkgeljaaa
