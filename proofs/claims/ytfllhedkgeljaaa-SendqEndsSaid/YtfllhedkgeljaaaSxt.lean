/-
Plain lemmas for the contracts. No condition.
-/
import Derived.Test.YtfllhedkgeljaaaSxs
import Derived.Laws.Bits
import Derived.Laws.Bits64
set_option linter.unusedSimpArgs false
set_option linter.unusedVariables false
namespace Go.Proofs.Ytfllhedkgeljaaa
namespace Sx
open Go.RowKit

theorem condP_dec {p : Prop} [Decidable p] {a b : Prop} (h : p → a) (g : ¬ p → b) : condP (decide p) a b := by
  by_cases hp : p
  · simpa [condP, hp] using h hp
  · simpa [condP, hp] using g hp
theorem condP_eq {x y : Int} {a b : Prop} (h : x = y → a) (g : x ≠ y → b) : condP (x == y) a b := by
  by_cases hp : x = y
  · simpa [condP, hp] using h hp
  · have : (x == y) = false := by simpa using hp
    rw [this]; exact g hp
theorem condP_ne {x y : Int} {a b : Prop} (h : x ≠ y → a) (g : x = y → b) : condP (x != y) a b := by
  by_cases hp : x = y
  · have : (x != y) = false := by simpa using hp
    rw [this]; exact g hp
  · have : (x != y) = true := by simpa using hp
    rw [this]; exact h hp
theorem condP_not {b : Bool} {p q : Prop} (h : condP b q p) : condP (!b) p q := by cases b <;> exact h

theorem fnOK_rv {P : Program} {f : FuncId} {a : List AV} {i : List Ob} {rv rv' : AV} {o : List Ob} (h : FnOK P f a i rv o) (e : rv = rv') : FnOK P f a i rv' o := e ▸ h
theorem tmod_nat {n : Int} (h : 0 ≤ n) (m : Nat) : n.tmod (m : Int) = ((n.toNat % m : Nat) : Int) := by
  obtain ⟨k, rfl⟩ := Int.eq_ofNat_of_zero_le h
  rfl
/-- An empty slice that came in may be nil, or not. -/
theorem fnOK_nil {P : Program} {f : FuncId} {rest : List AV} {ins : List Ob} {rv : AV} {outs : List Ob} (h1 : ∀ a c, FnOK P f (.raw (.slice a 0 c) :: rest) ins rv outs) : FnOK P f (.d (.sl []) :: rest) ins rv outs :=
  ⟨(h1 none 0).1, fun w X β vs hO hvs => by
    have h := hvs.2 0 _ rfl
    obtain ⟨a, c, e⟩ : ∃ a c, vs.getD 0 undef = .slice a 0 c := by
      have h2 := h.d_inv
      generalize vs.getD 0 undef = v at h2
      cases h2 with
      | nil a c => exact ⟨a, c, rfl⟩
      | sl es a c => exact ⟨some a, _, rfl⟩
    refine (h1 a c).2 w X β vs hO ⟨by simpa using hvs.1, fun j x hj => ?_⟩
    cases j with
    | zero => cases hj; rw [e]; exact .raw _
    | succ j => exact hvs.2 (j + 1) x hj⟩
theorem dint {k : IntKind} {x y : Int} (h : x = y) : AV.d (.int k x) = AV.d (.int k y) := by rw [h]
theorem dbool {x y : Bool} (h : x = y) : AV.d (.bool x) = AV.d (.bool y) := by rw [h]
theorem dyes {p : Prop} [Decidable p] (h : p) : D.bool (decide p) = D.bool true := by simp [h]
theorem dno {p : Prop} [Decidable p] (h : ¬ p) : D.bool (decide p) = D.bool false := by simp [h]
theorem beq_t {x y : Int} (h : x = y) : (x == y) = true := by simp [h]
theorem beq_f {x y : Int} (h : x ≠ y) : (x == y) = false := by simpa using h
theorem bne_t {x y : Int} (h : x ≠ y) : (x != y) = true := by simpa using h
theorem bne_f {x y : Int} (h : x = y) : (x != y) = false := by simp [h]
theorem el_map {α : Type} {f : α → D} {l : List α} {i : Int} {j : Nat} {x : α} (h : l[j]? = some x) (hi : i = j) : (l.map f)[i.toNat]? = some (f x) := by
  subst hi; simp [h]

theorem map_of {α : Type} (f : α → D) (Q : α → Prop) : ∀ (es : List D), (∀ d ∈ es, ∃ x, d = f x ∧ Q x) → ∃ l : List α, es = l.map f ∧ ∀ x ∈ l, Q x
  | [], _ => ⟨[], rfl, by simp⟩
  | d :: r, h => by
    obtain ⟨x, rfl, hx⟩ := h d (by simp)
    obtain ⟨l, rfl, hl⟩ := map_of f Q r fun d hd => h d (by simp [hd])
    exact ⟨x :: l, rfl, by simpa using ⟨hx, hl⟩⟩

/-! ### What came in, by its kind -/
theorem ck1 {k : CK} {x : D} (h : ∃ ds, CK.hasL [k] ds ∧ (if false = true then x = .agg ds else ds = [x])) : k.has x := by
  obtain ⟨ds, h1, h2⟩ := h
  simp only [Bool.false_eq_true, if_false] at h2
  subst h2
  simp only [CK.hasL] at h1
  obtain ⟨d, l, h3, h4, rfl⟩ := h1
  simp only [List.cons.injEq, and_true] at h3
  exact h3 ▸ h4
theorem ckA {ks : List CK} {x : D} (h : ∃ ds, CK.hasL ks ds ∧ (if true = true then x = .agg ds else ds = [x])) : ∃ ds, x = .agg ds ∧ CK.hasL ks ds := by
  obtain ⟨ds, h1, h2⟩ := h
  simp only [if_true] at h2
  exact ⟨ds, h2, h1⟩
theorem hasL_cons {k : CK} {ks : List CK} {ds : List D} (h : CK.hasL (k :: ks) ds) : ∃ d l, ds = d :: l ∧ k.has d ∧ CK.hasL ks l := h
theorem hasL_nil {ds : List D} (h : CK.hasL [] ds) : ds = [] := h
theorem has_bool {x : D} (h : CK.bool.has x) : ∃ b, x = .bool b := h
theorem has_str {x : D} (h : CK.str.has x) : ∃ s, x = .str s ∧ s.length ≤ maxLen := h
theorem has_sl {ag : Bool} {e : List CK} {x : D} (h : (CK.sl ag e).has x) : ∃ es, x = .sl es ∧ es.length ≤ maxLen ∧ ∀ y ∈ es, ∃ cs, CK.hasL e cs ∧ (if ag then y = .agg cs else cs = [y]) := h
theorem has_int {k : IntKind} {x : D} (h : (CK.int k).has x) : ∃ n, x = .int k n ∧ k.min ≤ n ∧ n ≤ k.max := by
  obtain ⟨n, h1, h2⟩ := h
  simp only [Lit.wf, Bool.and_eq_true, decide_eq_true_eq] at h2
  exact ⟨n, h1, h2.1, h2.2⟩
theorem has_slOf {α : Type} {ag : Bool} {e : List CK} {x : D} (f : α → D) (Q : α → Prop) (h : (CK.sl ag e).has x) (g : ∀ y, (∃ cs, CK.hasL e cs ∧ (if ag = true then y = .agg cs else cs = [y])) → ∃ a, y = f a ∧ Q a) :
    ∃ l : List α, x = .sl (l.map f) ∧ l.length ≤ maxLen ∧ ∀ a ∈ l, Q a := by
  obtain ⟨es, rfl, h1, h2⟩ := has_sl h
  obtain ⟨l, rfl, h3⟩ := map_of f Q es fun d hd => g d (h2 d hd)
  exact ⟨l, rfl, by simpa using h1, h3⟩
theorem has_u8 {x : D} (h : (CK.int .u8).has x) : ∃ n, x = .int .u8 n ∧ 0 ≤ n ∧ n < 256 := by
  obtain ⟨n, h1, h2, h3⟩ := has_int h
  have a : IntKind.u8.min = 0 := by decide
  have b : IntKind.u8.max = 255 := by decide
  exact ⟨n, h1, by omega, by omega⟩
theorem hasl_u8 {x : D} (h : (CK.sl false [.int .u8]).has x) : ∃ l : List Int, x = .sl (l.map (.int .u8)) ∧ l.length ≤ maxLen ∧ ∀ n ∈ l, 0 ≤ n ∧ n < 256 :=
  has_slOf (D.int .u8) (fun n => 0 ≤ n ∧ n < 256) h fun y hy => has_u8 (ck1 hy)
theorem has_u16 {x : D} (h : (CK.int .u16).has x) : ∃ n, x = .int .u16 n ∧ 0 ≤ n ∧ n < 65536 := by
  obtain ⟨n, h1, h2, h3⟩ := has_int h
  have a : IntKind.u16.min = 0 := by decide
  have b : IntKind.u16.max = 65535 := by decide
  exact ⟨n, h1, by omega, by omega⟩
theorem hasl_u16 {x : D} (h : (CK.sl false [.int .u16]).has x) : ∃ l : List Int, x = .sl (l.map (.int .u16)) ∧ l.length ≤ maxLen ∧ ∀ n ∈ l, 0 ≤ n ∧ n < 65536 :=
  has_slOf (D.int .u16) (fun n => 0 ≤ n ∧ n < 65536) h fun y hy => has_u16 (ck1 hy)
theorem has_u32 {x : D} (h : (CK.int .u32).has x) : ∃ n, x = .int .u32 n ∧ 0 ≤ n ∧ n < 4294967296 := by
  obtain ⟨n, h1, h2, h3⟩ := has_int h
  have a : IntKind.u32.min = 0 := by decide
  have b : IntKind.u32.max = 4294967295 := by decide
  exact ⟨n, h1, by omega, by omega⟩
theorem hasl_u32 {x : D} (h : (CK.sl false [.int .u32]).has x) : ∃ l : List Int, x = .sl (l.map (.int .u32)) ∧ l.length ≤ maxLen ∧ ∀ n ∈ l, 0 ≤ n ∧ n < 4294967296 :=
  has_slOf (D.int .u32) (fun n => 0 ≤ n ∧ n < 4294967296) h fun y hy => has_u32 (ck1 hy)
theorem has_u64 {x : D} (h : (CK.int .u64).has x) : ∃ n, x = .int .u64 n ∧ 0 ≤ n ∧ n < 18446744073709551616 := by
  obtain ⟨n, h1, h2, h3⟩ := has_int h
  have a : IntKind.u64.min = 0 := by decide
  have b : IntKind.u64.max = 18446744073709551615 := by decide
  exact ⟨n, h1, by omega, by omega⟩
theorem hasl_u64 {x : D} (h : (CK.sl false [.int .u64]).has x) : ∃ l : List Int, x = .sl (l.map (.int .u64)) ∧ l.length ≤ maxLen ∧ ∀ n ∈ l, 0 ≤ n ∧ n < 18446744073709551616 :=
  has_slOf (D.int .u64) (fun n => 0 ≤ n ∧ n < 18446744073709551616) h fun y hy => has_u64 (ck1 hy)
theorem has_i16 {x : D} (h : (CK.int .i16).has x) : ∃ n, x = .int .i16 n ∧ -32768 ≤ n ∧ n < 32768 := by
  obtain ⟨n, h1, h2, h3⟩ := has_int h
  have a : IntKind.i16.min = -32768 := by decide
  have b : IntKind.i16.max = 32767 := by decide
  exact ⟨n, h1, by omega, by omega⟩
theorem hasl_i16 {x : D} (h : (CK.sl false [.int .i16]).has x) : ∃ l : List Int, x = .sl (l.map (.int .i16)) ∧ l.length ≤ maxLen ∧ ∀ n ∈ l, -32768 ≤ n ∧ n < 32768 :=
  has_slOf (D.int .i16) (fun n => -32768 ≤ n ∧ n < 32768) h fun y hy => has_i16 (ck1 hy)
theorem has_i32 {x : D} (h : (CK.int .i32).has x) : ∃ n, x = .int .i32 n ∧ -2147483648 ≤ n ∧ n < 2147483648 := by
  obtain ⟨n, h1, h2, h3⟩ := has_int h
  have a : IntKind.i32.min = -2147483648 := by decide
  have b : IntKind.i32.max = 2147483647 := by decide
  exact ⟨n, h1, by omega, by omega⟩
theorem hasl_i32 {x : D} (h : (CK.sl false [.int .i32]).has x) : ∃ l : List Int, x = .sl (l.map (.int .i32)) ∧ l.length ≤ maxLen ∧ ∀ n ∈ l, -2147483648 ≤ n ∧ n < 2147483648 :=
  has_slOf (D.int .i32) (fun n => -2147483648 ≤ n ∧ n < 2147483648) h fun y hy => has_i32 (ck1 hy)
theorem has_i64 {x : D} (h : (CK.int .i64).has x) : ∃ n, x = .int .i64 n ∧ -9223372036854775808 ≤ n ∧ n < 9223372036854775808 := by
  obtain ⟨n, h1, h2, h3⟩ := has_int h
  have a : IntKind.i64.min = -9223372036854775808 := by decide
  have b : IntKind.i64.max = 9223372036854775807 := by decide
  exact ⟨n, h1, by omega, by omega⟩
theorem hasl_i64 {x : D} (h : (CK.sl false [.int .i64]).has x) : ∃ l : List Int, x = .sl (l.map (.int .i64)) ∧ l.length ≤ maxLen ∧ ∀ n ∈ l, -9223372036854775808 ≤ n ∧ n < 9223372036854775808 :=
  has_slOf (D.int .i64) (fun n => -9223372036854775808 ≤ n ∧ n < 9223372036854775808) h fun y hy => has_i64 (ck1 hy)
end Sx
end Go.Proofs.Ytfllhedkgeljaaa
