/-
laws 36: what the library's atomic numbers do, by the kit's own walks. No condition beyond what each theorem names.
-/
import Derived.Test.YthedplgfpfajdaaSxu
import Derived.Test.YthedplgfpfajdaaProg
import Derived.Tactics
import Derived.Tactics2
import Derived.Defers
import Derived.Laws.Pointers
import Derived.Laws.LoneSync
import Derived.RegionTactic
import Derived.RegionCalls
import Derived.ChangeAlike
set_option linter.unusedSimpArgs false
set_option linter.unusedVariables false
namespace Go.Proofs.Ythedplgfpfajdaa
open Sx Go.RowKit

/-! ### Objects, and single cells -/
section
variable {O : Nat → Ob} {β : Nat → HE} {X : Nat → Prop} {w : World}
theorem box_set (hO : Objs O β X w) {n b : Nat} {cs : List AV} (hn : O n = .box cs) (hb : β n = .box b) {j : Nat} {x : AV} {u : Value} (hj : j < cs.length) (hu : AR O β X w x u) :
    Objs (upd O n (.box (cs.set j x))) β X (w.setCell ⟨b, j, none⟩ u) ∧ Step O (upd O n (.box (cs.set j x))) β β w (w.setCell ⟨b, j, none⟩ u) := by
  obtain ⟨b', cur, t, lo, hi, hβ, hh, hf, hsz, hr⟩ := hO.boxS hn
  rw [hb] at hβ
  cases hβ
  rw [setCell_eq_setRow w b j cur t (lo, hi) u hh]
  refine hO.write (ob := .box (cs.set j x)) (by rw [hn]; simp) (by rw [hb]; rfl) (setRow_evo w b _) (by simp) fun hs => ?_
  rw [hb]
  refine .box _ b _ t lo hi (setRow_heap w b cur _ t _ hh) hf (by simp [hsz]) fun k y hk => ?_
  rw [Array.getD_eq_getD_getElem?, Array.getElem?_setIfInBounds]
  rw [List.getElem?_set] at hk
  by_cases h : j = k
  · subst h
    rw [if_pos rfl, if_pos hj] at hk
    cases hk
    rw [if_pos rfl, if_pos (by omega)]
    exact hs.rav hu
  · rw [if_neg h] at hk
    rw [if_neg h, ← Array.getD_eq_getD_getElem?]
    exact hs.rav (hr k y hk)
theorem objs_drew (hO : Objs O β X w) : Objs O β X w.drew := ⟨fun o => (hO.rel o).mono (T := fun _ => False) ((Evo.refl _ w).drew) (fun _ h => h.elim) (fun b hb => .inl hb) (fun o ho => ⟨ho, .inl rfl⟩) (fun _ _ => rfl), hO.inj, hO.priv, hO.xlt⟩
theorem step_drew (O : Nat → Ob) (β : Nat → HE) (w : World) : Step O O β β w w.drew := ⟨(Evo.refl _ w).drew, fun o ho => ⟨ho, .inl rfl⟩, fun b hb => .inl hb⟩
/-- A pointer to a box, in memory. -/
theorem box_at (hO : Objs O β X w) {n off : Nat} {cs : List AV} (hn : O n = .box cs) {v : Value} (hv : AR O β X w (.ptr n off) v) :
    ∃ b, β n = .box b ∧ v = .pointer (some ⟨b, off, none⟩) ∧ b < w.heap.size ∧ ∀ (j : Nat) (x : AV), cs[j]? = some x → ∃ u, w.cell? ⟨b, j, none⟩ = some u ∧ AR O β X w x u ∧ w.frozen? ⟨b, j, none⟩ = false := by
  obtain ⟨b, cur, t, lo, hi, hβ, hh, hf, hsz, hr⟩ := hO.box hn
  cases hv with
  | ptr _ _ _ ho h1 h =>
    refine ⟨b, hβ, h b hβ, (Array.getElem?_eq_some_iff.1 hh).1, fun j x hj => ?_⟩
    have hlt : j < cur.size := by rw [hsz]; exact (List.getElem?_eq_some_iff.1 hj).1
    refine ⟨_, cellIn hh hlt, hr j x hj, ?_⟩
    unfold World.frozen?
    simp only [hh]
    have := hf j hlt
    cases h3 : (decide (lo ≤ j) && decide (j < hi))
    · rfl
    · simp at h3; exact absurd h3 this
theorem upd_oof {l : List Ob} {n : Nat} {ob : Ob} (hn : n < l.length) : upd (Oof l) n ob = Oof (l.set n ob) := by
  funext k
  unfold upd Oof
  rw [List.getElem?_set]
  by_cases h : k = n
  · subst h
    simp [hn]
  · rw [if_neg h, if_neg (fun e => h e.symm)]
theorem vs1 {vs : Array Value} {v : Value} (hs : vs.size = 1) (hv : vs.getD 0 undef = v) : vs = #[v] := by
  obtain ⟨vs⟩ := vs
  match vs, hs, hv with
  | [v0], _, hv => cases hv; rfl
theorem vs2 {vs : Array Value} {u v : Value} (hs : vs.size = 2) (hu : vs.getD 0 undef = u) (hv : vs.getD 1 undef = v) : vs = #[u, v] := by
  obtain ⟨vs⟩ := vs
  match vs, hs, hu, hv with
  | [v0, v1], _, hu, hv => cases hu; cases hv; rfl
theorem rav_unit (w : World) (M : Nat → Prop) (β : Nat → HE) (C : Nat → Prop) : RAV w M β C (.tup []) (.tuple #[]) := .tup [] #[] rfl fun j x h => by simp at h
end

/-! ### Atomic numbers -/
theorem ld28 (a : Addr) (x : Int) (w : World) (hc : w.cell? a = some (.int .i64 x)) : Calls Try.prog 28 #[.pointer (some a)] w fun e w' => e = .returned (.int .i64 x) ∧ w' = w := by
  have hl := run_call_load (P := Try.prog) Try.func33 (by kernel_rfl) (by kernel_rfl) (by kernel_rfl) .i64 (by kernel_rfl) hc
  go_enter Try.func28, Try.ntmps28
  go_wp2
  go_ret
  exact ⟨rfl, rfl⟩
theorem st29 (a : Addr) (u : Value) (y : Int) (w : World) (hc : w.cell? a = some u) (hz : w.frozen? a = false) : Calls Try.prog 29 #[.pointer (some a), .int .i64 y] w fun e w' => e = .returned (.tuple #[]) ∧ w' = w.setCell a (.int .i64 y) := by
  have hl := run_call_store (P := Try.prog) Try.func34 (by kernel_rfl) (by kernel_rfl) (by kernel_rfl) (by kernel_rfl) (k := .i64) (y := y) hc hz
  go_enter Try.func29, Try.ntmps29
  go_wp2
  go_end0
  exact ⟨rfl, rfl⟩
theorem ad30 (a : Addr) (x y s : Int) (hs : IntKind.i64.wrap (x + y) = s) (w : World) (hc : w.cell? a = some (.int .i64 x)) (hz : w.frozen? a = false) : Calls Try.prog 30 #[.pointer (some a), .int .i64 y] w fun e w' => e = .returned (.int .i64 s) ∧ w' = w.setCell a (.int .i64 s) := by
  have hl := run_call_add (P := Try.prog) Try.func35 (by kernel_rfl) (by kernel_rfl) (by kernel_rfl) .i64 (by kernel_rfl) (y := y) (s := s) hc hz (by subst hs; rfl)
  go_enter Try.func30, Try.ntmps30
  go_wp2
  go_ret
  exact ⟨rfl, rfl⟩
theorem load28 (cs : List AV) (n : Nat) (v : Int) (h : cs[n]? = some (.d (.int .i64 v))) : FnOK Try.prog 28 [.ptr 0 n] [.box cs] (.d (.int .i64 v)) [.box cs] := by
  refine ⟨⟨Try.f28, Try.func28, by kernel_rfl, by kernel_rfl⟩, fun w X β vs hO hvs => ?_⟩
  obtain ⟨hsz, hvs⟩ := hvs
  obtain ⟨b, hb, hv, hlt, hc⟩ := box_at hO (n := 0) rfl (hvs 0 _ rfl)
  obtain ⟨u, hu, hru, -⟩ := hc n _ h
  obtain rfl := hru.d_inv.int_inv
  rw [vs1 hsz hv]
  exact (ld28 ⟨b, n, none⟩ v w hu).mono fun e w' ⟨he, hw⟩ => by
    subst hw
    exact ⟨_, β, he, .d _ _ (.int _ _), hO, Step.refl _ _ _⟩
theorem store29 (cs : List AV) (n : Nat) (y : Int) (h : n < cs.length) : FnOK Try.prog 29 [.ptr 0 n, .d (.int .i64 y)] [.box cs] (.tup []) [.box (cs.set n (.d (.int .i64 y)))] := by
  refine ⟨⟨Try.f29, Try.func29, by kernel_rfl, by kernel_rfl⟩, fun w X β vs hO hvs => ?_⟩
  obtain ⟨hsz, hvs⟩ := hvs
  obtain ⟨b, hb, hv, hlt, hc⟩ := box_at hO (n := 0) rfl (hvs 0 _ rfl)
  obtain ⟨u, hu, hru, hz⟩ := hc n _ (List.getElem?_eq_getElem h)
  rw [vs2 hsz hv (hvs 1 _ rfl).d_inv.int_inv]
  refine (st29 ⟨b, n, none⟩ u y w hu hz).mono fun e w' ⟨he, hw⟩ => ?_
  subst hw
  obtain ⟨h1, h2⟩ := box_set hO (n := 0) rfl hb h (.d (.int .i64 y) _ (.int _ _))
  rw [upd_oof (by simp)] at h1 h2
  exact ⟨_, β, he, rav_unit _ _ _ _, h1, h2⟩
theorem add30 (cs : List AV) (n : Nat) (x y : Int) (h : cs[n]? = some (.d (.int .i64 x))) : FnOK Try.prog 30 [.ptr 0 n, .d (.int .i64 y)] [.box cs] (.d (.int .i64 (IntKind.i64.wrap (x + y)))) [.box (cs.set n (.d (.int .i64 (IntKind.i64.wrap (x + y)))))] := by
  refine ⟨⟨Try.f30, Try.func30, by kernel_rfl, by kernel_rfl⟩, fun w X β vs hO hvs => ?_⟩
  obtain ⟨hsz, hvs⟩ := hvs
  obtain ⟨b, hb, hv, hlt, hc⟩ := box_at hO (n := 0) rfl (hvs 0 _ rfl)
  obtain ⟨u, hu, hru, hz⟩ := hc n _ h
  obtain rfl := hru.d_inv.int_inv
  rw [vs2 hsz hv (hvs 1 _ rfl).d_inv.int_inv]
  refine (ad30 ⟨b, n, none⟩ x y _ rfl w hu hz).mono fun e w' ⟨he, hw⟩ => ?_
  subst hw
  obtain ⟨h1, h2⟩ := box_set hO (n := 0) rfl hb (List.getElem?_eq_some_iff.1 h).1 (.d (.int .i64 (IntKind.i64.wrap (x + y))) _ (.int _ _))
  rw [upd_oof (by simp)] at h1 h2
  exact ⟨_, β, he, .d _ _ (.int _ _), h1, h2⟩
end Go.Proofs.Ythedplgfpfajdaa
