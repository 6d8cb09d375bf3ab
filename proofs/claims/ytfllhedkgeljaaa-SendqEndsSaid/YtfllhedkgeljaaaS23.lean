/-
laws 11, plain: everything is under way or came; what is left grows less. No program.
-/
import Derived.Test.YtfllhedkgeljaaaS22
set_option linter.unusedSimpArgs false
set_option linter.unusedVariables false
namespace Go.Proofs.Ytfllhedkgeljaaa
open Sx Go.RowKit C06

def Cov (s : Sq) : Prop := ∀ m, s.b ≤ m → m < s.n → has s.cm m = true ∨ ∃ c ∈ s.fl, c.f ≤ m ∧ m < c.t
theorem cov0 : Cov v0 := fun m h1 h2 => by have h1 : (0:Int) ≤ m := h1; have h2 : m < 0 := h2; omega
theorem cov_write {s : Sq} (h : Cov s) (x : List UInt8) : Cov (rWrite s x).1 := by
  unfold rWrite
  split
  · exact h
  · split <;> exact h
theorem cov_map {s : Sq} (h : Cov s) (g : Ck → Ck) (hg : ∀ c, (g c).f = c.f ∧ (g c).t = c.t) : Cov { s with fl := s.fl.map g } := fun m h1 h2 => by
  rcases h m h1 h2 with e | ⟨c, hc, e⟩
  · exact .inl e
  · exact .inr ⟨g c, List.mem_map_of_mem hc, by rw [(hg c).1, (hg c).2]; exact e⟩
theorem cov_set {s : Sq} (h : Cov s) {i : Nat} {c c' : Ck} (hi : s.fl[i]? = some c) (e1 : c'.f = c.f) (e2 : c'.t = c.t) : Cov { s with fl := s.fl.set i c' } := fun m h1 h2 => by
  have hlt := get_lt hi
  rcases h m h1 h2 with e | ⟨x, hx, e⟩
  · exact .inl e
  · right
    obtain ⟨k, hk, hkx⟩ := List.mem_iff_getElem.1 hx
    by_cases q : i = k
    · subst q
      have : x = c := by rw [List.getElem?_eq_getElem hlt] at hi; rw [hkx] at hi; exact Option.some.inj hi
      subst this
      refine ⟨c', ?_, by rw [e1, e2]; exact e⟩
      exact List.mem_iff_getElem.2 ⟨i, by show i < (s.fl.set i c').length; rw [List.length_set]; exact hlt, by simp⟩
    · refine ⟨x, ?_, e⟩
      exact List.mem_iff_getElem.2 ⟨k, by show k < (s.fl.set i c').length; rw [List.length_set]; exact hk, by simp [q, hkx]⟩
theorem cov_pick {s : Sq} (h : Cov s) (now win lim : Int) : Cov (rPick s now win lim).1 := by
  unfold rPick
  split
  · exact h
  · split
    · split
      · next c hc =>
        split
        · exact cov_set h hc rfl rfl
        · exact h
      · exact h
    · split
      · exact h
      · intro m h1 h2
        have h2 : m < s.n + pkN s win lim := h2
        by_cases q : m < s.n
        · rcases h m h1 q with e | ⟨c, hc, e⟩
          · exact .inl e
          · exact .inr ⟨c, List.mem_append_left _ hc, e⟩
        · exact .inr ⟨pkC s now win lim, List.mem_append_right _ (by simp), by show s.n ≤ m; omega, h2⟩
theorem cov_lose {s : Sq} (h : Cov s) : Cov (rLose s).1 := by
  unfold rLose
  cases s.cm.getLast? with
  | none => exact h
  | some z => exact cov_map h (loseC z.2) fun c => by unfold loseC; split <;> exact ⟨rfl, rfl⟩
theorem may_c {s : Sq} {all : List UInt8} (h : KI s all) {c : Ck} (hc : c ∈ s.fl) : mayB (ckI c) = true := by
  have h1 := h.b0
  have h3 := h.nd
  have h4 := h.al
  have hF := row_mem h.fl c hc
  have f1 := hF.f
  have f2 := hF.ft
  have f3 := hF.n
  exact mayB_iff.2 ⟨⟨by show 0 ≤ c.f; omega, by show c.f ≤ _; omega⟩, by show 0 ≤ c.t; omega, by show c.t ≤ _; omega⟩
/-- What an acknowledgement that may be leaves. -/
structure Ak (s y : Sq) (cm : List Iv) (B : Int) (now : Int) : Prop where
  y : y = (rLose ⟨B, s.d.drop (B - s.b).toNat, s.n, s.fl.flatMap (fun c => lft c cm), rCut cm (0, B)⟩).1
  bb : s.b ≤ B ∧ B ≤ s.n
  f : has cm B = false
  lo : ∀ m, s.b ≤ m → m < B → has cm m = true
  m : mayB (0, B) = true
theorem ak_of {s : Sq} {all : List UInt8} (h : KI s all) {u : Int} {l : List Iv} (hq : mayQ s u l = true) (now : Int) :
    Ak s (rAck s u l now).1 (ackAll s u l) (rFirst (ackAll s u l) u) now ∧ AllOk s u l (ackAll s u l) := by
  have h3 := h.nd
  have h4 := h.al
  have hn := h.sq.n.2
  have ao := all_ok hn hq
  obtain ⟨f1, f2, f3, f4⟩ := first_in ao
  have hbu := ao.bu
  have h1 := ao.b0
  refine ⟨⟨?_, ⟨by omega, f2⟩, f3, f4, mayB_iff.2 ⟨⟨Int.le_refl _, by show (0:Int) ≤ _; omega⟩, by show 0 ≤ rFirst _ _; omega, by show rFirst _ _ ≤ _; omega⟩⟩, ao⟩
  unfold rAck
  rw [hq, if_neg (by simp)]
  unfold acO ackF
  rw [ackF_flat, List.nil_append]
theorem cov_ack {s : Sq} {all : List UInt8} (hk : KI s all) (h : Cov s) (u : Int) (l : List Iv) (now : Int) : Cov (rAck s u l now).1 := by
  cases hq : mayQ s u l
  · unfold rAck
    rw [hq, if_pos rfl]
    exact h
  · obtain ⟨a, ao⟩ := ak_of hk hq now
    rw [a.y]
    refine cov_lose ?_
    obtain ⟨c1, c2⟩ := cut_has ao.ok a.m
    intro m h1 h2
    have h1 : rFirst (ackAll s u l) u ≤ m := h1
    have h2 : m < s.n := h2
    have hB := a.bb
    cases hm : has (ackAll s u l) m
    · have h5 := ao.has m
      rw [hm] at h5
      rcases h m (by omega) h2 with e | ⟨c, hc, e1, e2⟩
      · rw [e] at h5; cases h5
      · right
        have g2 := (gaps_ok ao.ok (may_c hk hc)).2 m
        rw [hm, show inV (ckI c) m = true from decide_eq_true ⟨e1, e2⟩] at g2
        obtain ⟨x, hx, x1, x2⟩ := has_iff.1 (show has (rGaps (ackAll s u l) (ckI c)) m = true from g2)
        refine ⟨part c x, List.mem_flatMap.2 ⟨c, hc, ?_⟩, x1, x2⟩
        unfold lft
        exact List.mem_map_of_mem hx
    · left
      show has (rCut _ _) m = true
      rw [c2, hm, show inV (0, rFirst (ackAll s u l) u) m = false from decide_eq_false (by show ¬(0 ≤ m ∧ m < rFirst _ _); omega)]
      rfl
theorem cov_done {s : Sq} {all : List UInt8} (hk : KI s all) (h : Cov s) (a : De) (now : Int) : Cov (rDone s a now) := by
  unfold rDone
  split
  · exact cov_pick h _ _ _
  · split
    · exact cov_map h lose1 fun c => ⟨rfl, rfl⟩
    · split
      · exact cov_ack hk h _ _ _
      · split
        · exact cov_ack hk h _ _ _
        · exact h
/-! ### One by one -/
structure EI (s : Sq) (all : List UInt8) : Prop where
  ki : KI s all
  cov : Cov s
  lost : ∀ c ∈ s.fl, c.l = true
def left (s : Sq) : Int := s.d.length - rCount s.cm
theorem low_cm {s : Sq} {all : List UInt8} (h : KI s all) : Low s.n.toNat s.cm := ⟨h.ok, fun m hm => by
  have h1 := h.b0
  have h2 := h.bn
  cases hc : has s.cm m
  · rfl
  · have := has_range (a := s.b) (b := s.n) (fun x hx => ⟨by have := h.cm x hx; omega, (h.cm x hx).2⟩) hc
    omega⟩
theorem left_pos {s : Sq} {all : List UInt8} (h : KI s all) (hd : s.d ≠ []) : 1 ≤ left s := by
  have h1 := h.b0
  have h2 := h.bn
  have h3 := h.nd
  have h5 := h.dlen
  have h6 := List.length_pos_iff.2 hd
  have hK : (s.n.toNat : Int) = s.n := by omega
  unfold left
  rw [low_count (low_cm h)]
  have hr : ∀ m, has s.cm m = true → s.b + 1 ≤ m ∧ m < s.n := fun m hm => has_range (fun x hx => ⟨by have := h.cm x hx; omega, (h.cm x hx).2⟩) hm
  by_cases g : s.b < s.n
  · have e := num_in (x := (s.b + 1, s.n)) (by show 0 ≤ s.b + 1; omega) (by show s.b + 1 ≤ s.n; omega) s.n.toNat
    have e2 := num_mono (p := has s.cm) (q := inV (s.b + 1, s.n)) (K := s.n.toNat) fun n _ hm => decide_eq_true (hr n hm)
    rw [e] at e2
    dsimp only at e2
    split at e2 <;> omega
  · have e2 := num_mono (p := has s.cm) (q := has []) (K := s.n.toNat) fun n _ hm => by have := hr n hm; omega
    have e3 : num (has []) s.n.toNat = 0 := by
      have := low_count (low_nil s.n.toNat)
      rw [← this]; rfl
    omega
theorem flight_lost : ∀ (l : List Ck) (m : Int), (∀ c ∈ l, c.l = true) → l.foldl flS m = m
  | [], m, _ => rfl
  | c :: l, m, h => by
    rw [List.foldl_cons]
    have : flS m c = m := by unfold flS; simp [h c (by simp)]
    rw [this]
    exact flight_lost l m fun x hx => h x (List.mem_cons_of_mem _ hx)
/-- What is picked: one chunk stands first, the rest is lost. -/
structure Pc (s x : Sq) (c : Ck) (t all : List UInt8) : Prop where
  ki : KI x all
  cov : Cov x
  fl : ∃ rest, x.fl = c :: rest ∧ ∀ c' ∈ rest, c'.l = true
  b : x.b = s.b
  d : x.d = s.d
  cm : x.cm = s.cm
  tl : (t.length : Int) = c.t - c.f
  ft : c.f < c.t
theorem pc_of {s : Sq} {all : List UInt8} (h : EI s all) (hd : s.d ≠ []) {now : Int} (hn : 0 ≤ now ∧ now ≤ 1000000) :
    Pc s (rPick s now 4096 1099511627776).1 (rPick s now 4096 1099511627776).2.1 (rPick s now 4096 1099511627776).2.2 all := by
  have hk := h.ki
  have h1 := hk.b0
  have h2 := hk.bl
  have h3 := hk.nd
  have h4 := hk.al
  have h5 := hk.bn
  have h6 := hk.dlen
  have h7 := List.length_pos_iff.2 hd
  obtain ⟨k1, -, -, -⟩ := ki_pick (win := 4096) hk hn
  have kc := cov_pick h.cov now 4096 1099511627776
  have hf : rFlight s = 0 := by unfold rFlight; exact flight_lost s.fl 0 h.lost
  have ht : tickB now = true := by unfold tickB; simp; omega
  unfold rPick at k1 kc ⊢
  rw [if_neg (by rw [hk.chk, ht]; simp)] at k1 kc ⊢
  have hl := h.lost
  cases hfl : s.fl with
  | nil =>
    have e : s.b = s.n := by
      by_cases g : s.b < s.n
      · rcases h.cov s.b (Int.le_refl _) g with e | ⟨c, hc, -⟩
        · have := has_range (a := s.b + 1) (b := s.n) (fun x hx => ⟨by have := hk.cm x hx; omega, (hk.cm x hx).2⟩) e
          omega
        · rw [hfl] at hc; cases hc
      · omega
    have e0 : s.fl.findIdx? lostB = none := by rw [hfl]; rfl
    rw [hfl] at e0
    rw [hfl] at k1 kc
    have hq : ¬(s.b + (s.d.length : Int) - s.n = 0 ∨ (4096:Int) ≤ rFlight s ∨ (1099511627776:Int) ≤ s.n) := by omega
    simp only [e0, if_neg hq] at k1 kc ⊢
    have hp : 0 < pkN s 4096 1099511627776 ∧ pkN s 4096 1099511627776 ≤ s.b + (s.d.length : Int) - s.n := by unfold pkN; omega
    refine ⟨k1, kc, ⟨[], by simp, fun c' hc => by cases hc⟩, rfl, rfl, rfl, ?_, by show s.n < s.n + _; omega⟩
    exact bytes_len hk (by show s.b ≤ s.n; omega) (by show s.n ≤ s.n + _; omega) (by show s.n + _ ≤ _; omega)
  | cons c0 rest =>
    have hc0 : c0.l = true := hl c0 (by rw [hfl]; simp)
    have e0 : (c0 :: rest).findIdx? lostB = some 0 := by rw [List.findIdx?_cons]; unfold lostB; rw [hc0]; rfl
    have hF := row_mem hk.fl c0 (by rw [hfl]; simp)
    have f1 := hF.f
    have f2 := hF.ft
    have f3 := hF.n
    have f4 := hF.z
    rw [hfl] at k1 kc
    have hq : rFlight s = 0 ∨ rFlight s + (c0.t - c0.f) ≤ 4096 := .inl hf
    simp only [e0, List.getElem?_cons_zero, if_pos hq] at k1 kc ⊢
    refine ⟨k1, kc, ⟨rest, by simp, fun c' hc => hl c' (by rw [hfl]; exact List.mem_cons_of_mem _ hc)⟩, rfl, rfl, rfl, ?_, f2⟩
    exact bytes_len (c := again c0 now) hk f1 (by show c0.f ≤ c0.t; omega) (by show c0.t ≤ _; omega)
theorem lose_lost {s : Sq} (h : ∀ c ∈ s.fl, c.l = true) : ∀ c ∈ (rLose s).1.fl, c.l = true := by
  unfold rLose
  cases s.cm.getLast? with
  | none => exact h
  | some z =>
    intro c hc
    obtain ⟨c', h', rfl⟩ := List.mem_map.1 hc
    unfold loseC
    split
    · rfl
    · exact h c' h'
theorem lose_y {y z : Sq} (h : y = (rLose z).1) : y.b = z.b ∧ y.n = z.n ∧ y.cm = z.cm ∧ y.d = z.d := by rw [h]; exact lose_b z
theorem end_step {s x : Sq} {c : Ck} {t all : List UInt8} (hp : Pc s x c t all) (now : Int) :
    EI (rAck x x.b [(c.f, c.t)] now).1 all ∧ (rAck x x.b [(c.f, c.t)] now).2.a = t.length ∧ left (rAck x x.b [(c.f, c.t)] now).1 = left s - t.length := by
  have hk := hp.ki
  have h1 := hk.b0
  have h2 := hk.bl
  have h3 := hk.nd
  have h4 := hk.al
  have h5 := hk.bn
  have h6 := hk.dlen
  obtain ⟨rest, hr, hlost⟩ := hp.fl
  have hF := row_mem hk.fl c (by rw [hr]; simp)
  have f1 := hF.f
  have f2 := hF.ft
  have f3 := hF.n
  have hto := hp.tl
  have o1 : Ok [(c.f, c.t)] := ok_one (x := (c.f, c.t)) (by show 0 ≤ c.f; omega) f2 (by show c.t ≤ _; omega)
  have hq : mayQ x x.b [(c.f, c.t)] = true := by
    unfold mayQ
    rw [decide_eq_true ⟨hk.chk, Int.le_refl _, h5, iChk_iff.2 o1⟩]
    have : outB x x.b (c.f, c.t) = false := by unfold outB; simp; omega
    simp [this]
  obtain ⟨k1, -, -, -⟩ := ki_ack hk x.b [(c.f, c.t)] now
  have kc := cov_ack hk hp.cov x.b [(c.f, c.t)] now
  obtain ⟨a, ao⟩ := ak_of hk hq now
  have hcnt : (rAck x x.b [(c.f, c.t)] now).2.a = IntKind.i64.wrap (rCount (ackAll x x.b [(c.f, c.t)]) - rCount x.cm) := by unfold rAck; rw [hq, if_neg (by simp)]
  obtain ⟨l1, l2, l3, l4⟩ := lose_y a.y
  have hy := a.y
  have hB := a.bb
  have hlo := a.lo
  have hmB := a.m
  generalize hcm : ackAll x x.b [(c.f, c.t)] = cm at *
  generalize hBe : rFirst cm x.b = B at *
  have hall : ∀ m, has cm m = (has x.cm m || inV (ckI c) m) := fun m => by
    rw [ao.has, show inV (x.b, x.b) m = false from decide_eq_false (by show ¬(x.b ≤ m ∧ m < x.b); omega), Bool.false_or, has_one]
    rfl
  have hdis : ∀ m, inV (ckI c) m = true → has x.cm m = false := fun m hv => by
    have g2 := (gaps_ok hk.ok (may_c hk (by rw [hr]; simp : c ∈ x.fl))).2 m
    rw [hF.g, has_one, hv] at g2
    cases q : has x.cm m
    · rfl
    · rw [q] at g2; cases g2
  have hK : (x.n.toNat : Int) = x.n := by omega
  have lw : Low x.n.toNat cm := ⟨ao.ok, fun m hm => by
    cases q : has cm m
    · rfl
    · have := ao.rng m q; omega⟩
  have n1 : rCount cm = rCount x.cm + (c.t - c.f) := by
    rw [low_count lw, low_count (low_cm hk)]
    have e1 : num (has cm) x.n.toNat = num (fun m => has x.cm m || inV (ckI c) m) x.n.toNat := num_ext fun n _ => hall n
    rw [e1, num_or (fun n _ hn => by
      cases q : inV (ckI c) n
      · rfl
      · rw [hdis n q] at hn; cases hn)]
    rw [num_in (x := ckI c) (by show 0 ≤ c.f; omega) (by show c.f ≤ c.t; omega)]
    show _ + (if (x.n.toNat : Int) ≤ c.f then 0 else min (x.n.toNat : Int) c.t - c.f) = _
    rw [if_neg (by omega)]
    omega
  obtain ⟨c1, c2⟩ := cut_has ao.ok hmB
  have n2 : rCount cm = rCount (rCut cm (0, B)) + (B - x.b) := by
    rw [low_count lw, low_count (low_cut lw hmB)]
    have e1 : num (has cm) x.n.toNat = num (fun m => has (rCut cm (0, B)) m || inV (x.b, B) m) x.n.toNat := num_ext fun n _ => by
      show has cm n = (has (rCut cm (0, B)) n || inV (x.b, B) n)
      rw [c2]
      cases q : inV (x.b, B) n
      · cases q2 : has cm n
        · rfl
        · have q3 := ao.rng n q2
          have q4 : ¬(x.b ≤ (n:Int) ∧ (n:Int) < B) := of_decide_eq_false q
          rw [show inV (0, B) n = false from decide_eq_false (by show ¬(0 ≤ (n:Int) ∧ (n:Int) < B); omega)]
          rfl
      · have q4 : x.b ≤ (n:Int) ∧ (n:Int) < B := of_decide_eq_true q
        rw [hlo n q4.1 q4.2, Bool.or_true]
    rw [e1, num_or (fun n _ hn => by
      rw [c2, Bool.and_eq_true, Bool.not_eq_true'] at hn
      have q3 : ¬(0 ≤ (n:Int) ∧ (n:Int) < B) := of_decide_eq_false hn.2
      exact decide_eq_false (by show ¬(x.b ≤ (n:Int) ∧ (n:Int) < B); omega))]
    rw [num_in (x := (x.b, B)) h1 hB.1]
    show _ + (if (x.n.toNat : Int) ≤ x.b then 0 else min (x.n.toNat : Int) B - x.b) = _
    split <;> omega
  refine ⟨⟨k1, kc, ?_⟩, ?_, ?_⟩
  · rw [hy]
    refine lose_lost fun c' hc' => ?_
    obtain ⟨c2', hc2, hc3⟩ := List.mem_flatMap.1 (show c' ∈ x.fl.flatMap (fun c => lft c cm) from hc')
    rw [hr] at hc2
    unfold lft at hc3
    obtain ⟨y, hy2, rfl⟩ := List.mem_map.1 hc3
    rcases List.mem_cons.1 hc2 with rfl | hc2
    · have hg := gap_in ao.ok (may_c hk (by rw [hr]; simp : c2' ∈ x.fl)) y hy2
      have g1 := hg.2.2 y.1 (decide_eq_true (by omega))
      rw [hall, show inV (ckI c2') y.1 = true from decide_eq_true (by show c2'.f ≤ y.1 ∧ y.1 < c2'.t; omega), Bool.or_true] at g1
      cases g1
    · exact hlost c2' hc2
  · rw [hcnt, n1]
    have e : rCount x.cm + (c.t - c.f) - rCount x.cm = c.t - c.f := by omega
    rw [e, wrap_in (by omega) (by omega)]
    omega
  · unfold left
    rw [l3, l4, ← hp.d, ← hp.cm]
    show ((x.d.drop (B - x.b).toNat).length : Int) - rCount (rCut cm (0, B)) = _
    rw [List.length_drop]
    omega
theorem end_nil {s : Sq} {all : List UInt8} (h : KI s all) (hd : s.d = []) : s.fl = [] := by
  have h3 := h.nd
  have h5 := h.dlen
  have h6 := row_len h.fl h.bn
  rw [hd] at h5
  simp at h5
  exact List.length_eq_zero_iff.1 (by omega)
end Go.Proofs.Ytfllhedkgeljaaa
