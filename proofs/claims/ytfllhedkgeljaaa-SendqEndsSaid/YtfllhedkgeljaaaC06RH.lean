/-
laws 06: Cut's contract, where it cuts: the hand's walk told in contracts. Conditions: what its callees answer.
-/
import Derived.Test.YtfllhedkgeljaaaC06RG
import Derived.Test.YtfllhedkgeljaaaC06S0
set_option linter.unusedSimpArgs false
set_option linter.unusedVariables false
namespace Go.Proofs.Ytfllhedkgeljaaa.C06
open Sx Go.RowKit

theorem objs_nil (w : World) : Objs (Oof []) (fun _ => HE.gone) (fun _ => False) w := ⟨fun n => ObjRel.none, fun n m b h1 => by simp [HE.blk] at h1, fun n b h1 => by simp [HE.blk] at h1, fun b hb => hb.elim⟩
theorem oof_gone {β : Nat → HE} {X : Nat → Prop} {w : World} (h : Objs (Oof []) β X w) (o : Nat) : β o = .gone := by
  have := h.rel o
  have e : Oof [] o = .none := rfl
  rw [e] at this
  generalize β o = g at this
  cases this
  rfl
theorem tset_nil {β : Nat → HE} {X : Nat → Prop} {w : World} (h : Objs (Oof []) β X w) (b : Nat) : ¬Tset β b := fun ⟨o, ho⟩ => by
  rw [oof_gone h o] at ho
  cases ho
/-- A contract over no objects, told of plain values. -/
theorem calls_flat {f : FuncId} {args : List AV} {d : D} (h : FnOK Try.prog f args [] (.d d) []) (W : World) (vs : Array Value) (hvs : CR (Oof []) (fun _ => HE.gone) (fun _ => False) W args vs) :
    Calls Try.prog f vs W fun e W' => ∃ v, e = .returned v ∧ (∃ M, RepD W' M d v) ∧ Below W.heap.size W W' :=
  (h.2 W _ _ vs (objs_nil W) hvs).mono fun e W' ⟨v, β', he, ha, ho, hs⟩ => by
    refine ⟨v, he, ⟨_, ha.d_inv⟩, ⟨hs.evo.os, hs.evo.tape, hs.evo.output, hs.evo.size, fun k hk => hs.evo.block k hk (tset_nil (objs_nil W) k)⟩⟩
theorem ivV_rep (w : World) (M : Nat → Prop) (x : Iv) : RepD w M (ivD x) (ivV x) := by
  refine .agg _ _ rfl (fun d hd => by simp at hd; rcases hd with rfl | rfl <;> rfl) (fun j d hj => ?_)
  match j, hj with
  | 0, hj => cases hj; exact .int _ _
  | 1, hj => cases hj; exact .int _ _
theorem ivV_of {w : World} {M : Nat → Prop} {x : Iv} {v : Value} (h : RepD w M (ivD x) v) : v = ivV x := by
  cases h with
  | agg cs vs hl ho hr =>
    obtain ⟨vs⟩ := vs
    match vs, hl with
    | [a, b], _ =>
      have h0 : a = .int .i64 x.1 := (hr 0 _ rfl).int_inv
      have h1 : b = .int .i64 x.2 := (hr 1 _ rfl).int_inv
      rw [h0, h1]
theorem ivs_cells {w : World} {M : Nat → Prop} {s : List Iv} {v : Value} (h : RepD w M (.sl (s.map ivD)) v) : ∃ a cap, v = .slice a s.length cap ∧ IvsIn w.heap.size w.heap.size w v s := by
  generalize hd : D.sl (s.map ivD) = d at h
  cases h with
  | int | bool | str | agg => cases hd
  | nil a c =>
    injection hd with hd
    have : s = [] := by simpa using hd
    subst this
    exact ⟨a, c, rfl, .inl ⟨a, c, rfl, rfl⟩⟩
  | sl es a c sz f hn hb hM hsz hc hr =>
    injection hd with hd
    subst hd
    rw [List.length_map]
    refine ⟨some a, c, rfl, ?_⟩
    by_cases hs : s = []
    · subst hs; exact .inl ⟨_, _, rfl, rfl⟩
    · have hpos := List.length_pos_iff.2 hs
      have hz : sz = 2 := by
        obtain ⟨y, hy⟩ : ∃ y, s[0]? = some y := ⟨_, List.getElem?_eq_getElem hpos⟩
        exact ((hsz (ivD y) (List.mem_map_of_mem (List.mem_of_getElem? hy))).1).symm
      subst hz
      have hsp : a.spot = none := by
        have h0 := hc 0 0 (by rw [List.length_map]; exact hpos) (by omega)
        unfold World.cell? at h0
        simp only [Nat.zero_mul, Nat.zero_add, Addr.add, if_true] at h0
        split at h0
        · split at h0
          · cases h0
          · next hq => simpa using hq
        · cases h0
      obtain ⟨b, off, sp⟩ := a
      simp only at hsp
      subst hsp
      have hat : ∀ n, (Addr.mk b off none).add n = ⟨b, off + n, none⟩ := add_mk b off
      refine .inr ⟨b, off, c, rfl, ⟨hb, Nat.ne_of_lt hb⟩, fun j y hy => ?_, fun j y hy => ?_⟩
      · have hj := (List.getElem?_eq_some_iff.1 hy).1
        have h1 := hc j 0 (by rw [List.length_map]; exact hj) (by omega)
        have h2 := hr j 0 (ivD y) _ (by rw [List.getElem?_map, hy]; rfl) rfl
        rw [hat, h2.int_inv] at h1
        exact h1
      · have hj := (List.getElem?_eq_some_iff.1 hy).1
        have h1 := hc j 1 (by rw [List.length_map]; exact hj) (by omega)
        have h2 := hr j 1 (ivD y) _ (by rw [List.getElem?_map, hy]; rfl) rfl
        rw [hat, h2.int_inv] at h1
        exact h1
theorem ivsV_get : ∀ (l : List Iv) (i : Nat) (y : Iv), l[i]? = some y → (ivsV l)[i * 2]? = some (.int .i64 y.1) ∧ (ivsV l)[i * 2 + 1]? = some (.int .i64 y.2)
  | [], i, y, h => by simp at h
  | z :: l, i, y, h => by
    have e : ivsV (z :: l) = .int .i64 z.1 :: .int .i64 z.2 :: ivsV l := by simp [ivsV]
    rw [e]
    cases i with
    | zero => simp at h; subst h; exact ⟨rfl, rfl⟩
    | succ i =>
      simp only [List.getElem?_cons_succ] at h
      have := ivsV_get l i y h
      rw [show (i + 1) * 2 = i * 2 + 1 + 1 by omega]
      exact this
/-- A row that a call has laid reads as plain data. -/
theorem row_rep {w w' : World} {M : Nat → Prop} {v : Value} {l : List Iv} (h : w'.ownsRow w.heap.size 80 2 v l.length (ivsV l)) (hM : ∀ b, M b → b < w.heap.size) : RepD w' M (.sl (l.map ivD)) v := by
  obtain ⟨h0, h | ⟨g, cap, cur, rfl, hg, hb, hc, hm, hs, ht⟩⟩ := h
  · have : l = [] := List.length_eq_zero_iff.1 h.2
    subst this
    rw [h.1]
    exact .nil _ _
  · have hlt : g < w'.heap.size := (Array.getElem?_eq_some_iff.1 hb).1
    have hlen : (l.map ivD).length = l.length := List.length_map ..
    have key : ∀ i j, i < l.length → j < 2 → cur[i * 2 + j]? = some ((ivsV l).getD (i * 2 + j) undef) := fun i j hi hj => by
      have h1 : i * 2 + j < cur.size := by rw [hs]; have : (i + 1) * 2 ≤ cap * 2 := Nat.mul_le_mul_right 2 (by omega); omega
      have h2 : cur.toList[i * 2 + j]? = (ivsV l)[i * 2 + j]? := by
        rw [← ht, List.getElem?_take, if_pos (by omega)]
      have h3 : i * 2 + j < (ivsV l).length := by rw [ivsV_len]; omega
      rw [Array.getElem?_toList] at h2
      rw [h2, List.getD_eq_getElem?_getD, List.getElem?_eq_getElem h3]
      rfl
    have := RepD.sl (w := w') (M := M) (l.map ivD) ⟨g, 0, none⟩ cap 2 (fun i j => (ivsV l).getD (i * 2 + j) undef) (by omega) hlt (fun hm' => Nat.not_lt.2 hg (hM g hm'))
      (fun e he => by
        obtain ⟨y, -, rfl⟩ := List.mem_map.1 he
        exact ⟨rfl, fun d hd => by simp [ivD, D.cells] at hd; rcases hd with rfl | rfl <;> rfl⟩)
      (fun i j hi hj => by
        rw [add_mk]
        unfold World.cell?
        rw [hb]
        show cur[0 + (i * 2 + j)]? = _
        rw [Nat.zero_add]
        exact key i j (by omega) hj)
      (fun i j e d he hd => by
        rw [List.getElem?_map] at he
        cases hy : l[i]? with
        | none => rw [hy] at he; cases he
        | some y =>
          rw [hy] at he
          cases he
          obtain ⟨g1, g2⟩ := ivsV_get l i y hy
          match j, hd with
          | 0, hd =>
            cases hd
            show RepD w' M _ ((ivsV l).getD (i * 2 + 0) undef)
            rw [List.getD_eq_getElem?_getD, Nat.add_zero, g1]
            exact .int _ _
          | 1, hd =>
            cases hd
            show RepD w' M _ ((ivsV l).getD (i * 2 + 1) undef)
            rw [List.getD_eq_getElem?_getD, g2]
            exact .int _ _)
    rw [hlen] at this
    exact this
/-- Cut, where it cuts. -/
theorem cut13y (s : List Iv) (x : Iv) (hx : x.1 < x.2) (hl : s.length < 1000000) (hmay : FnOK Try.prog 65 [.d (ivD x)] [] (.d (.bool true)) []) (hchk : FnOK Try.prog 67 [.d (.sl (s.map ivD))] [] (.d (.int .i64 0)) []) :
    FnOK Try.prog 49 [.d (.sl (s.map ivD)), .d (ivD x)] [] (.d (.sl ((pcs x s).map ivD))) [] := by
  refine ⟨⟨Try.f49, Try.func49, by kernel_rfl, by kernel_rfl⟩, fun w X β vs hO hvs => ?_⟩
  obtain ⟨hsz, hvs⟩ := hvs
  have r0 := (hvs 0 _ rfl).d_inv
  have r1 := ivV_of (hvs 1 _ rfl).d_inv
  obtain ⟨vs⟩ := vs
  match vs, hsz, r0, r1 with
  | [v0, v1], _, r0, r1 =>
    have r0 : RepD w (Mset X β) (.sl (s.map ivD)) v0 := r0
    have r1 : v1 = ivV x := r1
    subst r1
    obtain ⟨a, cap, rfl, hI⟩ := ivs_cells r0
    have hc := Cut_in Fence.wide 5 trivial trivial trivial trivial trivial trivial rfl (by omega) a s.length cap x hx s hl w
      (fun W => callsIn_wide.2 ((calls_flat hmay W #[ivV x] (CR.one (.d _ _ (ivV_rep _ _ _)))).mono fun e W' ⟨v, he, ⟨M, hr⟩, hb⟩ => ⟨by rw [he, hr.bool_inv], hb⟩))
      (fun W hW => callsIn_wide.2 ((calls_flat hchk W #[.slice a s.length cap] (CR.one (.d _ _ (r0.mono (T := fun _ => False) ⟨hW.os, hW.tape, hW.output, hW.size, fun b hb _ => hW.block b hb⟩ (fun _ hf => hf.elim) (fun b hm => by
        rcases hm with hm | hm
        · exact hm.elim
        · obtain ⟨o, ho⟩ := hm; cases ho))))).mono fun e W' ⟨v, he, ⟨M, hr⟩, hb⟩ => ⟨by rw [he, hr.int_inv], hb⟩))
      hI
    refine (callsIn_wide.1 hc).mono fun e W' ⟨v, he, hrow, hb⟩ => ⟨v, β, he, .d _ _ (row_rep hrow fun b hm => ?_), ?_, ?_⟩
    · rcases hm with hm | hm
      · exact hO.xlt b hm
      · exact (tset_nil hO b hm).elim
    · exact ⟨fun o => (by rw [oof_gone hO o]; exact .none), fun o o' b h1 => (by rw [oof_gone hO o] at h1; cases h1), fun o b h1 => (by rw [oof_gone hO o] at h1; cases h1), fun b hx => Nat.lt_of_lt_of_le (hO.xlt b hx) hb.size⟩
    · exact ⟨⟨hb.os, hb.tape, hb.output, hb.size, fun b h1 _ => hb.block b h1⟩, fun o ho => absurd rfl ho, fun b h => .inl h⟩
end Go.Proofs.Ytfllhedkgeljaaa.C06
