/-
laws 11, plain: a state may be all along. No program.
-/
import Derived.Test.YtfllhedkgeljaaaS20
set_option linter.unusedSimpArgs false
set_option linter.unusedVariables false
namespace Go.Proofs.Ytfllhedkgeljaaa
open Sx Go.RowKit C06

/-! ### Its parts -/
theorem sChk_mk {s : Sq} (h1 : 0 ≤ s.b ∧ s.b ≤ 2000000) (h2 : s.b ≤ s.n ∧ s.n - s.b ≤ s.d.length) (h3 : s.d.length ≤ 4096) (h4 : cameB s = true) (h5 : flB s s.fl s.b = true) : sChk s = 0 := by
  have hw : IntKind.i64.wrap (s.n - s.b) = s.n - s.b := wrap_in (by omega) (by omega)
  have e : rngB s = false := decide_eq_false (by rw [hw]; unfold lastP; omega)
  unfold sChk
  rw [e, h4, h5]
  simp only [Bool.false_eq_true, if_false]
  rw [if_neg (by omega), if_neg (by simp), if_neg (by simp)]
theorem cameB_mk {s : Sq} (h : Ok s.cm) (g : ∀ x ∈ s.cm, s.b < x.1 ∧ x.2 ≤ s.n) : cameB s = true := by
  unfold cameB
  rw [decide_eq_true (iChk_iff.2 h), Bool.true_and, List.all_eq_true]
  intro x hx
  have := g x hx
  unfold camB
  simp; omega
structure Fit (s : Sq) (c : Ck) (a : Int) : Prop where
  f : a ≤ c.f
  ft : c.f < c.t
  n : c.t ≤ s.n
  z : c.t - c.f ≤ 48
  tm : (0 ≤ c.s ∧ c.s ≤ 1099511627776) ∧ (1 ≤ c.r ∧ c.r ≤ 1073741824)
  g : rGaps s.cm (ckI c) = [ckI c]
theorem fit_iff {s : Sq} {c : Ck} {a : Int} (ha : 0 ≤ a) (hn : s.n ≤ 2000000) : fitsB s c a = true ↔ Fit s c a := by
  constructor
  · intro h
    obtain ⟨h1, h2, h3, h4, h5, h6, h7, h8⟩ := fits_in ha (by omega) h
    exact ⟨h1, h2, h3, h4, ⟨h6, h7⟩, h8⟩
  · intro h
    have h1 := h.f
    have h2 := h.ft
    have h3 := h.n
    have h4 := h.z
    have h5 := h.tm
    have hw : cSz c = c.t - c.f := wrap_in (by omega) (by omega)
    unfold fitsB offB
    rw [hw, decide_eq_false (by omega), timB_iff.2 ⟨h5.1, by omega, h5.2.2⟩, decide_eq_true h.g]
    rfl
inductive Row (s : Sq) : List Ck → Int → Prop
  | nil (a : Int) : Row s [] a
  | cons {c : Ck} {l : List Ck} {a : Int} (h : Fit s c a) (t : Row s l c.t) : Row s (c :: l) a
theorem row_iff {s : Sq} (hn : s.n ≤ 2000000) : ∀ {l : List Ck} {a : Int}, 0 ≤ a → (flB s l a = true ↔ Row s l a)
  | [], a, _ => ⟨fun _ => .nil a, fun _ => rfl⟩
  | c :: l, a, ha => by
    unfold flB
    rw [Bool.and_eq_true, fit_iff ha hn]
    constructor
    · rintro ⟨h1, h2⟩
      have := h1.f
      have := h1.ft
      exact .cons h1 ((row_iff hn (by omega)).1 h2)
    · intro h
      cases h with
      | cons h1 h2 =>
        have := h1.f
        have := h1.ft
        exact ⟨h1, (row_iff hn (by omega)).2 h2⟩
theorem row_len {s : Sq} : ∀ {l : List Ck} {a : Int}, Row s l a → a ≤ s.n → (l.length : Int) ≤ s.n - a
  | [], a, _, h => by simp; omega
  | c :: l, a, h, _ => by
    cases h with
    | cons h1 h2 =>
      have := h1.f
      have := h1.ft
      have h3 := row_len h2 h1.n
      rw [List.length_cons]
      omega
theorem row_mem {s : Sq} : ∀ {l : List Ck} {a : Int}, Row s l a → ∀ c ∈ l, Fit s c a
  | [], a, _, c, hc => by cases hc
  | x :: l, a, h, c, hc => by
    cases h with
    | cons h1 h2 =>
      rcases List.mem_cons.1 hc with rfl | hc
      · exact h1
      · have h3 := row_mem h2 c hc
        have := h1.f
        have := h1.ft
        have := h3.f
        exact ⟨by omega, h3.ft, h3.n, h3.z, h3.tm, h3.g⟩
/-- Other ends, other marks. -/
theorem row_map {s s' : Sq} (hc : s'.cm = s.cm) (hn : s.n ≤ s'.n) (g : Ck → Ck) (hg : ∀ c, (g c).f = c.f ∧ (g c).t = c.t ∧ (g c).s = c.s ∧ (g c).r = c.r) : ∀ {l : List Ck} {a : Int}, Row s l a → Row s' (l.map g) a
  | [], a, _ => .nil a
  | c :: l, a, h => by
    cases h with
    | cons h1 h2 =>
      obtain ⟨e1, e2, e3, e4⟩ := hg c
      have e5 : ckI (g c) = ckI c := by unfold ckI; rw [e1, e2]
      refine .cons ⟨by rw [e1]; exact h1.f, by rw [e1, e2]; exact h1.ft, by rw [e2]; exact Int.le_trans h1.n hn, by rw [e1, e2]; exact h1.z, by rw [e3, e4]; exact h1.tm, by rw [e5, hc]; exact h1.g⟩ ?_
      rw [e2]
      exact row_map hc hn g hg h2
theorem row_set {s s' : Sq} (hc : s'.cm = s.cm) (hn : s.n ≤ s'.n) {c' : Ck} (ht : (0 ≤ c'.s ∧ c'.s ≤ 1099511627776) ∧ (1 ≤ c'.r ∧ c'.r ≤ 1073741824)) : ∀ {l : List Ck} {a : Int} {i : Nat} {c : Ck}, l[i]? = some c → c'.f = c.f → c'.t = c.t → Row s l a → Row s' (l.set i c') a
  | [], a, i, c, h, _, _, _ => by simp at h
  | x :: l, a, 0, c, h, e1, e2, hr => by
    simp at h
    subst h
    cases hr with
    | cons h1 h2 =>
      have e5 : ckI c' = ckI x := by unfold ckI; rw [e1, e2]
      refine .cons ⟨by rw [e1]; exact h1.f, by rw [e1, e2]; exact h1.ft, by rw [e2]; exact Int.le_trans h1.n hn, by rw [e1, e2]; exact h1.z, ht, by rw [e5, hc]; exact h1.g⟩ ?_
      rw [e2]
      have := row_map hc hn id (fun c => ⟨rfl, rfl, rfl, rfl⟩) h2
      rwa [List.map_id] at this
  | x :: l, a, i + 1, c, h, e1, e2, hr => by
    cases hr with
    | cons h1 h2 => exact .cons ⟨h1.f, h1.ft, Int.le_trans h1.n hn, h1.z, h1.tm, by rw [hc]; exact h1.g⟩ (row_set hc hn ht (i := i) (by simpa using h) e1 e2 h2)
theorem row_app {s : Sq} {m : List Ck} {e : Int} (hm : ∀ a, a ≤ e → Row s m a) : ∀ {l : List Ck} {a : Int}, Row s l a → a ≤ e → (∀ c ∈ l, c.t ≤ e) → Row s (l ++ m) a
  | [], a, _, h, _ => hm a h
  | c :: l, a, h, ha, hl => by
    cases h with
    | cons h1 h2 => exact .cons h1 (row_app hm h2 (hl c (by simp)) fun x hx => hl x (List.mem_cons_of_mem _ hx))
/-! ### What holds all along -/
structure KI (s : Sq) (all : List UInt8) : Prop where
  b0 : 0 ≤ s.b
  bn : s.b ≤ s.n
  bl : s.b ≤ all.length
  dt : s.d = all.drop s.b.toNat
  nd : s.n ≤ all.length
  dl : s.d.length ≤ 4096
  al : all.length ≤ 1000000
  ok : Ok s.cm
  cm : ∀ x ∈ s.cm, s.b < x.1 ∧ x.2 ≤ s.n
  fl : Row s s.fl s.b
theorem KI.dlen {s : Sq} {all : List UInt8} (h : KI s all) : (s.d.length : Int) = all.length - s.b := by
  have h1 := h.b0
  have h2 := h.bl
  rw [h.dt, List.length_drop]
  omega
theorem KI.chk {s : Sq} {all : List UInt8} (h : KI s all) : sChk s = 0 := by
  have h1 := h.b0
  have h2 := h.bl
  have h3 := h.nd
  have h4 := h.al
  have h5 := h.dlen
  exact sChk_mk ⟨h1, by omega⟩ ⟨h.bn, by omega⟩ h.dl (cameB_mk h.ok h.cm) ((row_iff (by omega) h1).2 h.fl)
theorem KI.len {s : Sq} {all : List UInt8} (h : KI s all) : s.fl.length ≤ 4096 ∧ s.cm.length ≤ 4096 := by
  have h1 := h.b0
  have h2 := h.bl
  have h3 := h.nd
  have h5 := h.dlen
  have h6 := h.dl
  have h7 := h.bn
  have h8 := row_len h.fl h.bn
  refine ⟨by omega, ?_⟩
  have h9 := srt_len (e := -1) (M := s.n) h.ok.srt (fun x hx => (h.cm x hx).2) (by omega)
  rcases ends_or s.cm with g | ⟨y, z, g1, g2, g3, g4⟩
  · rw [g]; simp
  · have hy := h.cm y g3
    have h10 : Srt s.b s.cm := by
      have hs := h.ok.srt
      cases hc : s.cm with
      | nil => trivial
      | cons w l =>
        rw [hc] at hs
        have := h.cm w (by rw [hc]; simp)
        exact ⟨⟨this.1, hs.1.2⟩, hs.2⟩
    have := srt_len h10 (fun x hx => (h.cm x hx).2) h7
    omega
theorem KI.sq {s : Sq} {all : List UInt8} (h : KI s all) : SqOk s := by
  have h1 := h.b0
  have h2 := h.bl
  have h3 := h.nd
  have h4 := h.al
  have h5 := h.bn
  have h6 := h.len
  have h7 := h.dl
  exact ⟨by omega, by omega, by omega, by omega, by omega⟩
theorem ki0 : KI v0 [] := ⟨by decide, by decide, by decide, rfl, by decide, by decide, by decide, ok_nil, (fun x hx => by cases hx), .nil _⟩
/-! ### Writing -/
theorem ki_write {s : Sq} {all : List UInt8} (h : KI s all) {x : List UInt8} (hx : all.length + x.length ≤ 1000000) :
    ∃ k : Nat, (rWrite s x).2 = k ∧ k ≤ x.length ∧ (k = x.length ∨ (rWrite s x).1.d.length = 4096) ∧ KI (rWrite s x).1 (all ++ x.take k) ∧ (rWrite s x).1.b = s.b ∧ (rWrite s x).1.n = s.n := by
  have h1 := h.b0
  have h2 := h.bl
  have h3 := h.nd
  have h4 := h.al
  have h5 := h.bn
  have h6 := h.dlen
  have h7 := h.dl
  have hN : wrN s x = min (x.length : Int) (4096 - (s.d.length : Int)) := rfl
  unfold rWrite
  rw [if_neg (by rw [h.chk]; simp), if_neg (by unfold lastP; omega)]
  refine ⟨(wrN s x).toNat, by show wrN s x = _; omega, by omega, ?_, ?_, rfl, rfl⟩
  · show _ ∨ (s.d ++ x.take (wrN s x).toNat).length = 4096
    rw [List.length_append, List.length_take]
    omega
  · have hl : (x.take (wrN s x).toNat).length ≤ (4096 - s.d.length) := by rw [List.length_take]; omega
    refine ⟨h1, h5, ?_, ?_, ?_, ?_, ?_, h.ok, h.cm, ?_⟩
    · show s.b ≤ ((all ++ x.take (wrN s x).toNat).length : Int)
      rw [List.length_append]; omega
    · show s.d ++ x.take (wrN s x).toNat = (all ++ x.take (wrN s x).toNat).drop s.b.toNat
      rw [List.drop_append_of_le_length (by omega), ← h.dt]
    · show s.n ≤ ((all ++ x.take (wrN s x).toNat).length : Int)
      rw [List.length_append]; omega
    · show (s.d ++ x.take (wrN s x).toNat).length ≤ 4096
      rw [List.length_append]; omega
    · rw [List.length_append, List.length_take]; omega
    · have := row_map (s := s) (s' := { s with d := s.d ++ x.take (wrN s x).toNat }) rfl (Int.le_refl _) id (fun c => ⟨rfl, rfl, rfl, rfl⟩) h.fl
      rwa [List.map_id] at this
/-! ### Picking -/
structure Pk (s s' : Sq) (c : Ck) (t all : List UInt8) : Prop where
  f : 0 ≤ c.f
  ft : c.f ≤ c.t
  ta : c.t ≤ all.length
  eq : t = (all.drop c.f.toNat).take (c.t.toNat - c.f.toNat)
  z : t = [] → c = ck0
theorem bytes_eq {s : Sq} {all : List UInt8} (h : KI s all) {c : Ck} (hf : s.b ≤ c.f) (ht : c.f ≤ c.t) : bytesOf s c = (all.drop c.f.toNat).take (c.t.toNat - c.f.toNat) := by
  have h1 := h.b0
  unfold bytesOf
  rw [h.dt, List.drop_drop]
  congr 1
  · omega
  · congr 1; omega
theorem bytes_len {s : Sq} {all : List UInt8} (h : KI s all) {c : Ck} (hf : s.b ≤ c.f) (ht : c.f ≤ c.t) (hl : c.t ≤ all.length) : ((bytesOf s c).length : Int) = c.t - c.f := by
  have h1 := h.b0
  rw [bytes_eq h hf ht, List.length_take, List.length_drop]
  omega
theorem pk_mk {s s' : Sq} {all : List UInt8} (h : KI s all) {c : Ck} (hf : s.b ≤ c.f) (ht : c.f < c.t) (hl : c.t ≤ all.length) : Pk s s' c (bytesOf s c) all := by
  have h1 := h.b0
  refine ⟨by omega, by omega, hl, bytes_eq h hf (by omega), fun e => ?_⟩
  have := bytes_len h hf (by omega) hl
  rw [e] at this
  simp at this
  omega
theorem pk_0 (s : Sq) (all : List UInt8) : Pk s s ck0 [] all := ⟨by decide, by decide, by show (0:Int) ≤ _; omega, by show [] = List.take 0 _; rfl, fun _ => rfl⟩
theorem flight_in {s : Sq} {all : List UInt8} (h : KI s all) : 0 ≤ rFlight s ∧ rFlight s ≤ s.n - s.b := by
  have h3 := h.nd
  have h4 := h.al
  exact flight_bd (by omega) h.chk
theorem ki_pick {s : Sq} {all : List UInt8} (h : KI s all) {now win : Int} (hn : 0 ≤ now ∧ now ≤ 1000000) :
    KI (rPick s now win 1099511627776).1 all ∧ (rPick s now win 1099511627776).1.b = s.b ∧ s.n ≤ (rPick s now win 1099511627776).1.n ∧ Pk s (rPick s now win 1099511627776).1 (rPick s now win 1099511627776).2.1 (rPick s now win 1099511627776).2.2 all := by
  have h1 := h.b0
  have h2 := h.bl
  have h3 := h.nd
  have h4 := h.al
  have h5 := h.bn
  have h6 := h.dlen
  have h7 := h.dl
  have ht : tickB now = true := by unfold tickB; simp; omega
  unfold rPick
  rw [if_neg (by rw [h.chk, ht]; simp)]
  split
  · next i hi =>
    split
    · next c hc =>
      split
      · have hF := row_mem h.fl c (get_mem hc)
        have f1 := hF.f
        have f2 := hF.ft
        have f3 := hF.n
        have f5 := hF.tm
        have hr : (again c now).r = min (c.r + 1) 1073741824 := by show min (IntKind.i64.wrap (c.r + 1)) _ = _; rw [wrap_in (by omega) (by omega)]
        refine ⟨⟨h1, h5, h2, h.dt, h3, h7, h4, h.ok, h.cm, ?_⟩, rfl, Int.le_refl _, ?_⟩
        · exact row_set (s := s) (s' := { s with fl := s.fl.set i (again c now) }) (c' := again c now) rfl (Int.le_refl _) ⟨⟨hn.1, by show now ≤ _; omega⟩, by rw [hr]; omega, by rw [hr]; omega⟩ hc rfl rfl h.fl
        · exact pk_mk (c := again c now) h f1 f2 (by show c.t ≤ _; omega)
      · exact ⟨h, rfl, Int.le_refl _, pk_0 s all⟩
    · exact ⟨h, rfl, Int.le_refl _, pk_0 s all⟩
  · split
    · exact ⟨h, rfl, Int.le_refl _, pk_0 s all⟩
    · next hq =>
      have hfb := flight_in h
      have hp : 0 < pkN s win 1099511627776 ∧ pkN s win 1099511627776 ≤ s.b + (s.d.length : Int) - s.n ∧ pkN s win 1099511627776 ≤ 48 := by unfold pkN; omega
      refine ⟨⟨h1, by show s.b ≤ s.n + _; omega, h2, h.dt, by show s.n + _ ≤ _; omega, h7, h4, h.ok, fun x hx => ?_, ?_⟩, rfl, by show s.n ≤ s.n + _; omega, ?_⟩
      · have := h.cm x hx
        exact ⟨this.1, by show x.2 ≤ s.n + _; omega⟩
      · have hr := row_map (s := s) (s' := { s with n := s.n + pkN s win 1099511627776, fl := s.fl ++ [pkC s now win 1099511627776] }) rfl (by show s.n ≤ s.n + _; omega) id (fun c => ⟨rfl, rfl, rfl, rfl⟩) h.fl
        rw [List.map_id] at hr
        refine row_app (e := s.n) (fun a ha => .cons ⟨ha, by show s.n < s.n + _; omega, Int.le_refl _, by show s.n + _ - s.n ≤ 48; omega, ⟨⟨hn.1, by show now ≤ _; omega⟩, by show (1:Int) ≤ 1; omega, by show (1:Int) ≤ _; omega⟩, ?_⟩ (.nil _)) hr h5 (fun c hc => (row_mem h.fl c hc).n)
        have o1 := ok_one (x := ckI (pkC s now win 1099511627776)) (by show 0 ≤ s.n; omega) (by show s.n < s.n + _; omega) (by show s.n + _ ≤ _; omega)
        refine (free_iff h.ok (by show 0 ≤ s.n; omega) (by show s.n < s.n + _; omega) (by show s.n + _ ≤ _; omega)).2 ?_
        rw [← meet_same]
        obtain ⟨m1, m2⟩ := meet_ok o1 h.ok
        refine ok_inj m1 ok_nil fun m => ?_
        rw [m2, has_one]
        show _ = false
        cases hv : inV (ckI (pkC s now win 1099511627776)) m
        · rfl
        · have hv' : s.n ≤ m ∧ m < s.n + pkN s win 1099511627776 := of_decide_eq_true hv
          cases hc : has s.cm m
          · rfl
          · have := has_range (a := s.b) (b := s.n) (fun x hx => ⟨by have := h.cm x hx; omega, (h.cm x hx).2⟩) hc
            omega
      · exact pk_mk (c := pkC s now win 1099511627776) h (by show s.b ≤ s.n; omega) (by show s.n < s.n + _; omega) (by show s.n + _ ≤ _; omega)
/-! ### Losing -/
theorem ki_marks {s : Sq} {all : List UInt8} (h : KI s all) (g : Ck → Ck) (hg : ∀ c, (g c).f = c.f ∧ (g c).t = c.t ∧ (g c).s = c.s ∧ (g c).r = c.r) : KI { s with fl := s.fl.map g } all :=
  ⟨h.b0, h.bn, h.bl, h.dt, h.nd, h.dl, h.al, h.ok, h.cm, row_map (s := s) (s' := { s with fl := s.fl.map g }) rfl (Int.le_refl _) g hg h.fl⟩
theorem ki_expire {s : Sq} {all : List UInt8} (h : KI s all) : KI (rExpire s).1 all := ki_marks h lose1 fun c => ⟨rfl, rfl, rfl, rfl⟩
theorem ki_lose {s : Sq} {all : List UInt8} (h : KI s all) : KI (rLose s).1 all := by
  unfold rLose
  cases s.cm.getLast? with
  | none => exact h
  | some z => exact ki_marks h (loseC z.2) fun c => by unfold loseC; split <;> exact ⟨rfl, rfl, rfl, rfl⟩
theorem lose_b (s : Sq) : (rLose s).1.b = s.b ∧ (rLose s).1.n = s.n ∧ (rLose s).1.cm = s.cm ∧ (rLose s).1.d = s.d := by
  rw [rLose_eq]; exact ⟨rfl, rfl, rfl, rfl⟩
/-! ### What came -/
theorem ackF_flat (all : List Iv) (now : Int) : ∀ (l : List Ck) (p : List Ck × Int), (l.foldl (ackS all now) p).1 = p.1 ++ l.flatMap (fun c => lft c all)
  | [], p => by simp
  | c :: l, p => by
    rw [List.foldl_cons, ackF_flat all now l, List.flatMap_cons]
    show (p.1 ++ lft c all) ++ _ = _
    rw [List.append_assoc]
theorem row_parts {s : Sq} {c : Ck} (hn : c.t ≤ s.n) (hz : c.t - c.f ≤ 48) (ht : (0 ≤ c.s ∧ c.s ≤ 1099511627776) ∧ (1 ≤ c.r ∧ c.r ≤ 1073741824)) : ∀ {g : List Iv} {e a : Int}, Srt e g → (∀ x ∈ g, a ≤ x.1) → (∀ x ∈ g, c.f ≤ x.1 ∧ x.2 ≤ c.t) → (∀ x ∈ g, rGaps s.cm x = [x]) → Row s (g.map (part c)) a
  | [], e, a, _, _, _, _ => .nil a
  | x :: g, e, a, hs, ha, hr, hg => by
    have h1 := hs.1
    have h2 := hr x (by simp)
    refine .cons ⟨ha x (by simp), h1.2, by show x.2 ≤ _; omega, by show x.2 - x.1 ≤ _; omega, ht, hg x (by simp)⟩ ?_
    exact row_parts hn hz ht hs.2 (fun y hy => by have := srt_mem hs.2 y hy; show x.2 ≤ _; omega) (fun y hy => hr y (List.mem_cons_of_mem _ hy)) fun y hy => hg y (List.mem_cons_of_mem _ hy)
theorem row_app2 {s : Sq} {m : List Ck} {e : Int} (hm : ∀ a, a ≤ e → Row s m a) {l : List Ck} {a : Int} (h : Row s l a) (ha : a ≤ e) (hl : ∀ c ∈ l, c.t ≤ e) : Row s (l ++ m) a := row_app hm h ha hl
theorem gap_in {all : List Iv} (ok : Ok all) {c : Ck} (hm : mayB (ckI c) = true) : ∀ x ∈ rGaps all (ckI c), (c.f ≤ x.1 ∧ x.2 ≤ c.t) ∧ x.1 < x.2 ∧ ∀ m, inV x m = true → has all m = false := by
  obtain ⟨g1, g2⟩ := gaps_ok ok hm
  intro x hx
  have h1 := srt_mem g1.srt x hx
  have a1 : ∀ m, inV x m = true → inV (ckI c) m = true ∧ has all m = false := fun m hv => by
    have hv' : x.1 ≤ m ∧ m < x.2 := of_decide_eq_true hv
    have := g2 m
    rw [has_iff.2 ⟨x, hx, hv'⟩] at this
    have := this.symm
    rw [Bool.and_eq_true, Bool.not_eq_true'] at this
    exact this
  have b1 : c.f ≤ x.1 ∧ x.1 < c.t := of_decide_eq_true (a1 x.1 (decide_eq_true (by omega))).1
  have b2 : c.f ≤ x.2 - 1 ∧ x.2 - 1 < c.t := of_decide_eq_true (a1 (x.2 - 1) (decide_eq_true (by omega))).1
  exact ⟨⟨b1.1, by omega⟩, h1.2, fun m hv => (a1 m hv).2⟩
theorem row_flat {s s' : Sq} {all : List Iv} (hn : s'.n = s.n) (hs : s.n ≤ 2000000) (hb0 : 0 ≤ s.b) (ok : Ok all) (ok' : Ok s'.cm) (hc : ∀ m, has s'.cm m = true → has all m = true) (hb : ∀ m, s.b ≤ m → m < s'.b → has all m = true) : ∀ {l : List Ck} {a a' : Int}, s.b ≤ a → Row s l a → a' ≤ max a s'.b → Row s' (l.flatMap (fun c => lft c all)) a'
  | [], a, a', _, _, _ => .nil a'
  | c :: l, a, a', ha0, h, ha => by
    cases h with
    | cons h1 h2 =>
      have f1 := h1.f
      have f2 := h1.ft
      have f3 := h1.n
      have hm : mayB (ckI c) = true := mayB_iff.2 ⟨⟨by show 0 ≤ c.f; omega, by show c.f ≤ _; omega⟩, by show 0 ≤ c.t; omega, by show c.t ≤ _; omega⟩
      have hg := gap_in ok hm
      obtain ⟨g1, g2⟩ := gaps_ok ok hm
      rw [List.flatMap_cons]
      refine row_app2 (e := max c.t s'.b) (fun x hx => row_flat hn hs hb0 ok ok' hc hb (by omega) h2 hx) (row_parts (by omega) h1.z h1.tm g1.srt (fun x hx => ?_) (fun x hx => (hg x hx).1) (fun x hx => ?_)) (by omega) (fun y hy => ?_)
      · obtain ⟨⟨k1, k2⟩, k3, k4⟩ := hg x hx
        by_cases q : x.1 < s'.b
        · have := hb x.1 (by omega) q
          rw [k4 x.1 (decide_eq_true (by omega))] at this
          cases this
        · omega
      · obtain ⟨⟨k1, k2⟩, k3, k4⟩ := hg x hx
        refine (free_iff ok' (by omega) k3 (by omega)).2 ?_
        rw [← meet_same]
        obtain ⟨m1, m2⟩ := meet_ok (ok_one (x := x) (by omega) k3 (by omega)) ok'
        refine ok_inj m1 ok_nil fun m => ?_
        rw [m2, has_one]
        show _ = false
        cases hv : inV x m
        · rfl
        · cases hcm : has s'.cm m
          · rfl
          · have := hc m hcm
            rw [k4 m hv] at this
            cases this
      · unfold lft at hy
        obtain ⟨x, hx, rfl⟩ := List.mem_map.1 hy
        have := (hg x hx).1
        show x.2 ≤ _
        omega
theorem ki_ack {s : Sq} {all : List UInt8} (h : KI s all) (u : Int) (l : List Iv) (now : Int) :
    KI (rAck s u l now).1 all ∧ s.b ≤ (rAck s u l now).1.b ∧ (rAck s u l now).1.n = s.n ∧ (mayQ s u l = true → u ≤ (rAck s u l now).1.b) := by
  have h1 := h.b0
  have h2 := h.bl
  have h3 := h.nd
  have h4 := h.al
  have h5 := h.bn
  have h6 := h.dlen
  have h7 := h.dl
  have hn := h.sq.n.2
  unfold rAck
  cases hq : mayQ s u l
  · rw [if_pos rfl]
    exact ⟨h, Int.le_refl _, rfl, fun g => by cases g⟩
  · rw [if_neg (by simp)]
    have ao := all_ok hn hq
    generalize ackAll s u l = cm at *
    obtain ⟨f1, f2, f3, f4⟩ := first_in ao
    have hbu := ao.bu
    generalize hB : rFirst cm u = B at *
    have hmf : mayB (0, B) = true := mayB_iff.2 ⟨⟨Int.le_refl _, by show (0:Int) ≤ _; omega⟩, by show 0 ≤ B; omega, by show B ≤ _; omega⟩
    obtain ⟨c1, c2⟩ := cut_has ao.ok hmf
    have hin : ∀ x ∈ rCut cm (0, B), B < x.1 ∧ x.2 ≤ s.n := fun x hx => by
      have hx1 := srt_mem c1.srt x hx
      have g1 := c2 x.1
      rw [has_iff.2 ⟨x, hx, by omega, by omega⟩] at g1
      have g1 := g1.symm
      rw [Bool.and_eq_true, Bool.not_eq_true'] at g1
      have g2 := c2 (x.2 - 1)
      rw [has_iff.2 ⟨x, hx, by omega, by omega⟩] at g2
      have g2 := g2.symm
      rw [Bool.and_eq_true] at g2
      have g3 := ao.rng _ g2.1
      have g4 : ¬(0 ≤ x.1 ∧ x.1 < B) := of_decide_eq_false g1.2
      have g5 : x.1 ≠ B := fun e => by rw [e, f3] at g1; exact absurd g1.1 (by simp)
      omega
    have key : KI (acO s u cm now) all := by
      have hx : (acO s u cm now).b = B := hB
      refine ⟨by rw [hx]; omega, by rw [hx]; exact f2, by rw [hx]; omega, ?_, h3, ?_, h4, ?_, ?_, ?_⟩
      · show s.d.drop (rFirst cm u - s.b).toNat = all.drop (rFirst cm u).toNat
        rw [hB, h.dt, List.drop_drop]
        congr 1
        omega
      · show (s.d.drop _).length ≤ _
        rw [List.length_drop]; omega
      · show Ok (rCut cm (0, rFirst cm u))
        rw [hB]; exact c1
      · intro x hxx
        rw [hx]
        have hxx : x ∈ rCut cm (0, rFirst cm u) := hxx
        rw [hB] at hxx
        exact hin x hxx
      · rw [hx]
        show Row _ (ackF s cm now).1 B
        unfold ackF
        rw [ackF_flat, List.nil_append]
        refine row_flat (s := s) (s' := acO s u cm now) (all := cm) rfl (by omega) h1 ao.ok (by show Ok (rCut cm (0, rFirst cm u)); rw [hB]; exact c1) (fun m hm => ?_) (fun m m1 m2 => f4 m m1 (by rw [hx] at m2; exact m2)) (Int.le_refl _) h.fl (by rw [hx]; omega)
        have hm : has (rCut cm (0, rFirst cm u)) m = true := hm
        rw [hB, c2, Bool.and_eq_true] at hm
        exact hm.1
    obtain ⟨l1, l2, -, -⟩ := lose_b (acO s u cm now)
    refine ⟨ki_lose key, ?_, ?_, fun _ => ?_⟩
    · show s.b ≤ (rLose _).1.b
      rw [l1]; show s.b ≤ rFirst cm u; rw [hB]; omega
    · show (rLose _).1.n = _
      rw [l2]; rfl
    · show u ≤ (rLose _).1.b
      rw [l1]; show u ≤ rFirst cm u; rw [hB]; omega
theorem ki_done {s : Sq} {all : List UInt8} (h : KI s all) (a : De) (now : Int) (hn : 0 ≤ now ∧ now ≤ 1000000) :
    KI (rDone s a now) all ∧ s.b ≤ (rDone s a now).b ∧ s.n ≤ (rDone s a now).n ∧ (a.k % 5 = 3 → 0 ≤ a.n → s.b + a.n ≤ s.n → s.b + a.n ≤ (rDone s a now).b) := by
  unfold rDone
  split
  · next h1 =>
    obtain ⟨k1, k2, k3, -⟩ := ki_pick (win := 40 + a.n) h hn
    exact ⟨k1, by omega, k3, fun g => by omega⟩
  · split
    · exact ⟨ki_expire h, Int.le_refl _, Int.le_refl _, fun g => by omega⟩
    · split
      · obtain ⟨k1, k2, k3, k4⟩ := ki_ack h (s.b + a.n) [] now
        refine ⟨k1, k2, by omega, fun _ g1 g2 => k4 ?_⟩
        unfold mayQ
        rw [decide_eq_true ⟨h.chk, by omega, g2, rfl⟩]
        rfl
      · next h3 =>
        split
        · obtain ⟨k1, k2, k3, -⟩ := ki_ack h s.b [(s.b + a.p + 1, s.b + a.p + 1 + a.n)] now
          exact ⟨k1, k2, by omega, fun g => absurd g h3⟩
        · exact ⟨h, Int.le_refl _, Int.le_refl _, fun g => absurd g h3⟩
end Go.Proofs.Ytfllhedkgeljaaa
