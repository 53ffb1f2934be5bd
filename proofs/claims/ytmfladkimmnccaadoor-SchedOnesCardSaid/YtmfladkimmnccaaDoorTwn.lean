/- Schedules as trees: what twin answers, and law SchedOnes. No condition. -/
import Derived.Test.YtmfladkimmnccaaDoorVlu
import Derived.Test.YtmfladkimmnccaaDoorPWx6
import Derived.Test.YtmfladkimmnccaaDoorPWx7
import Derived.Test.YtmfladkimmnccaaDoorFpe
set_option linter.unusedVariables false
set_option linter.unusedSimpArgs false
namespace Go.Proofs.YtmfladkimmnccaaDoor.Sto
open Go.RowKit Lathe Go.Proofs.YtmfladkimmnccaaDoorW.PrintWords Go.Proofs.YtmfladkimmnccaaDoorW.PrintMore Go.Proofs.YtmfladkimmnccaaDoor.PW Go.Proofs.YtmfladkimmnccaaDoor.Tre Go.Proofs.YtmfladkimmnccaaDoor.Mag Go.Proofs.YtmfladkimmnccaaDoor.Row
open Go.Proofs.YtmfladkimmnccaaDoor.May (fin)

/-! ### twin -/
theorem take_at {α : Type} (l : List α) (z : α) {i : Nat} (h : i < l.length) : l.take (i + 1) = l.take i ++ [l.getD i z] := by
  rw [List.take_add_one, List.getD_eq_getElem?_getD, List.getElem?_eq_getElem h]
  rfl
theorem twin_loop (d : Nat) (ih : ∀ c : T, Wf d c → Ev (fun k => lathelaw14_twin.f k c.f0 c.f1 c.f2 c.f3) (c.f0, c.f1, c.f2, c.f3)) (x : T) (hx : ∀ c ∈ x.f3, Wf d c) (hl : x.f3.length ≤ 1759218604390) (a0 : Int) (l1 l2 : List Int) :
    ∀ m i : Nat, i + m = x.f3.length → Ev (fun k => lathelaw14_twin.l0 k (i : Int) x.f0 x.f1 x.f2 x.f3 a0 l1 l2 (x.f3.take i)) (a0, l1, l2, x.f3)
  | 0, i, h => by
    refine Ev.of (fun k => (lathelaw14_twin.mono_l k).2 _ _ _ _ _ _ _ _ _) (k := 1) ?_
    rw [lathelaw14_twin.l0, if_neg (by omega), List.take_of_length_le (by omega)]
  | m + 1, i, h => by
    have hi : i < x.f3.length := by omega
    obtain ⟨K1, h1⟩ := ih _ (hx _ (mem_at x.f3 z26 hi))
    obtain ⟨K2, h2⟩ := twin_loop d ih x hx hl a0 l1 l2 m (i + 1) (by omega)
    refine Ev.of (fun k => (lathelaw14_twin.mono_l k).2 _ _ _ _ _ _ _ _ _) (k := max K1 K2 + 1) ?_
    have a := h1 (max K1 K2) (by omega)
    have b := h2 (max K1 K2) (by omega)
    dsimp only at a b
    have e : wrap64 ((i : Int) + 1) = ((i + 1 : Nat) : Int) := by rw [w64 (by omega) (by omega)]; rfl
    rw [lathelaw14_twin.l0, if_pos (by omega), if_pos (by omega), rd_at, a, Option.bind_some, if_pos (by rw [List.length_take]; omega), e]
    rw [take_at x.f3 z26 hi] at b
    revert b
    generalize x.f3.getD i z26 = c
    intro b
    cases c
    exact b
theorem twin_ev : ∀ (d : Nat) (x : T), Wf d x → Ev (fun k => lathelaw14_twin.f k x.f0 x.f1 x.f2 x.f3) (x.f0, x.f1, x.f2, x.f3)
  | 0, _, h => h.elim
  | d + 1, x, h => by
    obtain ⟨_, hl1, hl2, hl3, _, _, hk⟩ := h
    obtain ⟨K, hK⟩ := twin_loop d (twin_ev d) x hk hl3 x.f0 x.f1 x.f2 x.f3.length 0 (by omega)
    refine Ev.of (fun k => lathelaw14_twin.mono _ _ _ _ k) (k := K + 1) ?_
    have a := hK K (Nat.le_refl _)
    dsimp only at a
    rw [lathelaw14_twin.f, if_pos (by simp only [List.length_nil]; omega), if_pos (by simp only [List.length_nil]; omega)]
    exact a

/-! ### times one -/
theorem near_scale {f r p c : Nat} (h : Near f r p 1) (hc : 0 < c) : Near f r (p * c) c := by
  unfold Near at *
  simp only [Nat.mul_one] at h
  have k1 : ∀ {a b : Nat}, a < 2 * b → a * c < 2 * (b * c) := fun {a b} h => by
    have := Nat.mul_lt_mul_of_pos_right h hc
    rw [Nat.mul_assoc] at this; exact this
  have k2 : ∀ {a b : Nat}, 2 * b < a → 2 * (b * c) < a * c := fun {a b} h => by
    have := Nat.mul_lt_mul_of_pos_right h hc
    rw [Nat.mul_assoc] at this; exact this
  have k3 : ∀ {a b : Nat}, a = 2 * b → a * c = 2 * (b * c) := fun {a b} h => by rw [h, Nat.mul_assoc]
  refine ⟨?_, ?_⟩
  · rcases h.1 with h | h | h
    · exact Or.inl h
    · exact Or.inr (Or.inl (k1 h))
    · exact Or.inr (Or.inr ⟨k3 h.1, h.2⟩)
  · rcases h.2 with h | h
    · exact Or.inl (k2 h)
    · exact Or.inr ⟨(k3 h.1.symm).symm, h.2⟩
theorem fmul_one {a : Nat} (ha : a < 4294967296) (h : rg a < 2139095040) : fmul a 1065353216 = a := by
  have h1 := fmul_fin (a := a) (b := 1065353216) h (by decide)
  have e1 : U 23 (rg 1065353216) = 2 ^ 149 := by rw [show rg 1065353216 = (126 + 1) * 8388608 by decide]; exact U_bin 23 126
  rw [e1, show sg 1065353216 = false by decide] at h1
  refine h1.unique ⟨rg a, near_iff.1 (near_scale (Near.self 23 (rg a)) (by decide)), ?_⟩ (sane_cq _ _ (by decide))
  rw [Nat.min_eq_left (by omega), Bool.xor_false, pk_of ha]
theorem and_exp (a : Nat) : a &&& 2139095040 = rg a / 8388608 * 8388608 := by
  apply Nat.eq_of_testBit_eq
  intro i
  have e1 : (2139095040 : Nat) = (2 ^ 8 - 1) <<< 23 := by decide
  have e2 : rg a / 8388608 * 8388608 = (a / 2 ^ 23 % 2 ^ 8) <<< 23 := by
    rw [Nat.shiftLeft_eq]
    unfold rg
    have h1 : a / 2 ^ 23 % 2 ^ 8 = a % 2147483648 / 8388608 := by omega
    rw [h1]
  rw [e2, Nat.testBit_and]
  conv => lhs; rw [e1]
  rw [Nat.testBit_shiftLeft, Nat.testBit_shiftLeft, Nat.testBit_two_pow_sub_one, Nat.testBit_mod_two_pow, Nat.testBit_div_two_pow]
  by_cases h : 23 ≤ i
  · rw [show i - 23 + 23 = i by omega]
    simp [h, Bool.and_comm]
  · simp [h]
theorem fin_rg (a : Nat) (ha : a < 4294967296) (h : fin (a : Int) = true) : rg a < 2139095040 := by
  unfold May.fin at h
  have hr := rg_lt a
  have e : Go.bits .and .u32 (a : Int) 2139095040 = ((rg a / 8388608 * 8388608 : Nat) : Int) := by
    have := u32_and_nat a 2139095040 ha (by omega)
    rw [and_exp] at this
    exact this
  rw [e, bne_iff_ne] at h
  omega

/-! ### boundaries rise -/
theorem rising_up (l : List Int) (hl : l.length ≤ 17592186043904) : ∀ (k i : Nat) (last : Int), 0 ≤ last → last ≤ 2147483647 → sched_rising.l0 k l last l (l.length : Int) (i : Int) = some true → 0 < l.length ∧ ∀ j : Nat, i ≤ j → j < l.length → last < rd l (j : Int)
  | 0, i, last, _, _, h => by simp [sched_rising.l0] at h
  | k + 1, i, last, h0, h1, h => by
    rw [sched_rising.l0] at h
    by_cases c : (i : Int) < (l.length : Int)
    · rw [if_pos c, if_pos (by omega), if_pos c, sched_within.f, w64 (by omega) (by omega)] at h
      by_cases c2 : rd l (i : Int) ≥ last + 1
      · rw [if_pos c2, Option.bind_some] at h
        by_cases c3 : decide (rd l (i : Int) ≤ 2147483647) = true
        · rw [if_pos c3, w64 (by omega) (by omega)] at h
          have c3 := of_decide_eq_true c3
          obtain ⟨a, b⟩ := rising_up l hl k (i + 1) (rd l (i : Int)) (by omega) c3 h
          refine ⟨a, fun j hj hjl => ?_⟩
          rcases Nat.lt_or_ge i j with g | g
          · have := b j g hjl; omega
          · obtain rfl : j = i := by omega
            omega
        · rw [if_neg c3] at h
          exact absurd (Option.some.inj h) (by decide)
      · rw [if_neg c2, Option.bind_some, if_neg (by decide)] at h
        exact absurd (Option.some.inj h) (by decide)
    · rw [if_neg c] at h
      have := of_decide_eq_true (Option.some.inj h)
      exact ⟨by omega, fun j hj hjl => by omega⟩
theorem rising_first (l : List Int) (hl : l.length ≤ 17592186043904) {k : Nat} (h : sched_rising.f k l = some true) : 0 < l.length ∧ ∀ j : Nat, j < l.length → rd l 0 ≤ rd l (j : Int) := by
  unfold sched_rising.f at h
  obtain ⟨a, b⟩ := rising_up l hl k 0 0 (by omega) (by omega) h
  refine ⟨a, fun j hj => ?_⟩
  cases k with
  | zero => simp [sched_rising.l0] at h
  | succ k =>
  rw [sched_rising.l0, if_pos (by omega), if_pos (by omega), if_pos (by omega), sched_within.f, w64 (by omega) (by omega)] at h
  have hb := b 0 (by omega) a
  rw [if_pos (by have : rd l ((0 : Nat) : Int) = rd l 0 := rfl; omega), Option.bind_some] at h
  by_cases c3 : decide (rd l 0 ≤ 2147483647) = true
  · rw [if_pos c3] at h
    have c3 := of_decide_eq_true c3
    have q : rd l ((0 : Nat) : Int) = rd l 0 := rfl
    obtain ⟨_, b2⟩ := rising_up l hl k 1 (rd l 0) (by omega) c3 h
    rcases Nat.eq_zero_or_pos j with e | e
    · subst e; exact Int.le_refl _
    · exact Int.le_of_lt (b2 j e hj)
  · rw [if_neg c3] at h
    exact absurd (Option.some.inj h) (by decide)
/-- What the row says of pieces. -/
theorem row_piece {x : T} (hl : x.f2.length ≤ 17592186043904) (hm : MayE x true) (c5 : x.f0 = 5) : x.f1.length = x.f2.length + 1 ∧ 0 < x.f2.length ∧ x.f3.length = 0 ∧ ∀ j : Nat, j < x.f2.length → rd x.f2 0 ≤ rd x.f2 (j : Int) := by
  obtain ⟨hfin, ⟨kr, hr⟩, hkm⟩ := may_true hm
  unfold rowO at hr
  rw [if_neg (by omega), if_neg (by omega), if_neg (by omega), if_neg (by omega), if_pos c5] at hr
  obtain ⟨b, hb1, hb⟩ := Option.map_eq_some_iff.1 hr
  simp only [Bool.and_eq_true] at hb
  obtain ⟨hh, hb2⟩ := hb
  subst hb2
  obtain ⟨e1, e2, e3⟩ := has_true hh
  obtain ⟨a, b⟩ := rising_first x.f2 hl hb1
  exact ⟨by omega, a, by omega, b⟩

/-! ### all factors one -/
structure Ones (l : List Int) (i : Nat) (l' : List Int) : Prop where
  len : l'.length = l.length
  head : rd l' 0 = rd l 0
  one : ∀ j : Nat, 1 ≤ j → j < i → j < l.length → rd l' (j : Int) = 1065353216
  all : ∀ y ∈ l', y ∈ l ∨ y = 1065353216
theorem Ones.start (l : List Int) : Ones l 1 l := ⟨rfl, rfl, fun j h1 h2 _ => by omega, fun y h => Or.inl h⟩
theorem rd_set (l : List Int) (i j : Nat) (v : Int) : rd (l.set i v) (j : Int) = if i = j ∧ i < l.length then v else rd l (j : Int) := by
  unfold rd
  rw [Int.toNat_natCast, List.getD_eq_getElem?_getD, List.getD_eq_getElem?_getD, List.getElem?_set]
  by_cases c : i = j
  · subst c
    by_cases c2 : i < l.length
    · simp [c2]
    · simp [c2]
  · simp [c]
theorem Ones.step {l l' : List Int} {i : Nat} (h : Ones l i l') (h1 : 1 ≤ i) (hi : i < l.length) : Ones l (i + 1) (l'.set i 1065353216) := by
  refine ⟨by rw [List.length_set]; exact h.len, ?_, fun j j1 j2 j3 => ?_, fun y hy => ?_⟩
  · have := rd_set l' i 0 1065353216
    rw [if_neg (by omega)] at this
    exact this.trans h.head
  · rw [rd_set]
    by_cases c : i = j
    · rw [if_pos ⟨c, by rw [h.len]; exact hi⟩]
    · rw [if_neg (by omega)]
      exact h.one j j1 (by omega) j3
  · rcases List.mem_or_eq_of_mem_set hy with e | e
    · exact h.all y e
    · exact Or.inr e
theorem ones_loop (x : T) (n : Int) (c5 : x.f0 = 5) (hl : x.f1.length ≤ 35184372087808) (hend : ∀ l', Ones x.f1 x.f1.length l' → Ev (fun k => lathelaw14_SchedOnes.j1 k n x.f0 x.f1 x.f2 x.f3 x.f0 l' x.f2 x.f3) true) :
    ∀ (m i : Nat) (l' : List Int), 1 ≤ i → x.f1.length ≤ i + m → Ones x.f1 i l' → Ev (fun k => lathelaw14_SchedOnes.l0 k n (i : Int) x.f0 x.f1 x.f2 x.f3 x.f0 l' x.f2 x.f3) true
  | 0, i, l', h1, h, ho => by
    obtain ⟨K, hK⟩ := hend l' ⟨ho.len, ho.head, fun j j1 j2 j3 => ho.one j j1 (by omega) j3, ho.all⟩
    refine Ev.of (fun k => (lathelaw14_SchedOnes.mono_l k).2.2 _ _ _ _ _ _ _ _ _ _) (k := K + 1) ?_
    have a := hK K (Nat.le_refl _)
    dsimp only at a
    rw [lathelaw14_SchedOnes.l0, if_neg (by have := ho.len; omega)]
    exact a
  | m + 1, i, l', h1, h, ho => by
    by_cases c : i < x.f1.length
    · obtain ⟨K, hK⟩ := ones_loop x n c5 hl hend m (i + 1) (l'.set i 1065353216) (by omega) (by omega) (ho.step h1 c)
      refine Ev.of (fun k => (lathelaw14_SchedOnes.mono_l k).2.2 _ _ _ _ _ _ _ _ _ _) (k := K + 1) ?_
      have a := hK K (Nat.le_refl _)
      dsimp only at a
      rw [lathelaw14_SchedOnes.l0, if_pos (by have := ho.len; omega), if_pos c5, if_pos (by omega), w64 (by omega) (by omega), Int.toNat_natCast]
      exact a
    · obtain ⟨K, hK⟩ := hend l' ⟨ho.len, ho.head, fun j j1 j2 j3 => ho.one j j1 (by omega) j3, ho.all⟩
      refine Ev.of (fun k => (lathelaw14_SchedOnes.mono_l k).2.2 _ _ _ _ _ _ _ _ _ _) (k := K + 1) ?_
      have a := hK K (Nat.le_refl _)
      dsimp only at a
      rw [lathelaw14_SchedOnes.l0, if_neg (by have := ho.len; omega)]
      exact a
theorem ones_piece (n y : Int) (l1 l2 : List Int) (f0 : Int) (f3 : List T) (hl : l2.length ≤ 17592186043904) (h1 : l1.length = l2.length + 1) (hy : float_Mul.f y 1065353216 = some y)
    (hone : ∀ j : Nat, 1 ≤ j → j < l1.length → rd l1 (j : Int) = 1065353216) :
    ∀ m i : Nat, i + m = l2.length → Ev (fun k => sched_at.l0 k n y l2 (l2.length : Int) (i : Int) f0 l1 l2 f3) y
  | 0, i, h => by
    refine Ev.of (fun k => (sched_at.mono_l k).2.1 _ _ _ _ _ _ _ _ _) (k := 1) ?_
    rw [sched_at.l0, if_neg (by omega)]
  | m + 1, i, h => by
    obtain ⟨K, hK⟩ := ones_piece n y l1 l2 f0 f3 hl h1 hy hone m (i + 1) (by omega)
    refine Ev.of (fun k => (sched_at.mono_l k).2.1 _ _ _ _ _ _ _ _ _) (k := K + 1) ?_
    have a := hK K (Nat.le_refl _)
    dsimp only at a
    have e : wrap64 ((i : Int) + 1) = ((i + 1 : Nat) : Int) := by rw [w64 (by omega) (by omega)]; rfl
    rw [sched_at.l0, if_pos (by omega), if_pos (by omega), if_pos (by omega), e]
    by_cases c : rd l2 (i : Int) ≤ n
    · rw [if_pos c, if_pos (by omega), if_pos (by omega), hone (i + 1) (by omega) (by omega), hy, Option.bind_some]
      exact a
    · rw [if_neg c]
      exact a
theorem early_piece (n y : Int) (l1 l2 : List Int) (f0 : Int) (f3 : List T) (hl : l2.length ≤ 17592186043904) (hn : ∀ j : Nat, j < l2.length → n < rd l2 (j : Int)) :
    ∀ m i : Nat, i + m = l2.length → Ev (fun k => sched_at.l0 k n y l2 (l2.length : Int) (i : Int) f0 l1 l2 f3) y
  | 0, i, h => by
    refine Ev.of (fun k => (sched_at.mono_l k).2.1 _ _ _ _ _ _ _ _ _) (k := 1) ?_
    rw [sched_at.l0, if_neg (by omega)]
  | m + 1, i, h => by
    obtain ⟨K, hK⟩ := early_piece n y l1 l2 f0 f3 hl hn m (i + 1) (by omega)
    refine Ev.of (fun k => (sched_at.mono_l k).2.1 _ _ _ _ _ _ _ _ _) (k := K + 1) ?_
    have a := hK K (Nat.le_refl _)
    dsimp only at a
    have e : wrap64 ((i : Int) + 1) = ((i + 1 : Nat) : Int) := by rw [w64 (by omega) (by omega)]; rfl
    have := hn i (by omega)
    rw [sched_at.l0, if_pos (by omega), if_pos (by omega), if_pos (by omega), if_neg (by omega), e]
    exact a
theorem piece_at {x : T} {n y : Int} (c5 : x.f0 = 5) (h0 : 0 < x.f1.length) (h : Ev (fun k => sched_at.l0 k n (rd x.f1 0) x.f2 (x.f2.length : Int) 0 x.f0 x.f1 x.f2 x.f3) y) : Ev (fun k => sched_at.f k x.f0 x.f1 x.f2 x.f3 n) y := by
  obtain ⟨K, hK⟩ := h
  have a := hK K (Nat.le_refl _)
  dsimp only at a
  refine Ev.of (fun k => sched_at.mono _ _ _ _ _ k) (k := K + 1) ?_
  rw [sched_at.f, if_neg (by omega), if_neg (by omega), if_neg (by omega), if_pos c5, if_pos (by omega)]
  exact a
/-- With all factors one a schedule of pieces may be as before. -/
theorem ones_may {x : T} {l' : List Int} (ho : Ones x.f1 x.f1.length l') (c5 : x.f0 = 5) (hm : MayE x true) : MayE ⟨x.f0, l', x.f2, x.f3⟩ true := by
  have hfin := (may_true hm).1
  have hfin' : l'.all fin = true := by
    rw [List.all_eq_true] at hfin ⊢
    intro y hy
    rcases ho.all y hy with h | h
    · exact hfin y h
    · subst h; decide
  obtain ⟨K, hK⟩ := hm
  refine ⟨K + 1, fun k hk => ?_⟩
  have a := hK k (by omega)
  dsimp only at a ⊢
  cases k with
  | zero => omega
  | succ k =>
  rw [mayF] at a ⊢
  rw [hfin] at a
  rw [hfin']
  have e : rowO k x.f0 l' x.f2 x.f3.length = rowO k x.f0 x.f1 x.f2 x.f3.length := by
    unfold rowO
    rw [if_neg (by omega), if_neg (by omega), if_neg (by omega), if_neg (by omega), if_pos c5, if_neg (by omega), if_neg (by omega), if_neg (by omega), if_neg (by omega), if_pos c5, ho.len]
  rw [e]
  exact a
theorem ones_wf {d : Nat} {x : T} (h : Wf d x) {l' : List Int} (ho : Ones x.f1 x.f1.length l') : Wf d ⟨x.f0, l', x.f2, x.f3⟩ := by
  cases d with
  | zero => exact h.elim
  | succ d =>
  obtain ⟨h0, h1, h2, h3, h4, h5, h6⟩ := h
  refine ⟨h0, by rw [ho.len]; exact h1, h2, h3, fun y hy => ?_, h5, h6⟩
  rcases ho.all y hy with e | e
  · exact h4 y e
  · subst e; decide
theorem ones_cnt (d : Nat) (x : T) (l' : List Int) : cnt d ⟨x.f0, l', x.f2, x.f3⟩ = cnt d x := by cases d <;> rfl
theorem ones_dpt (d : Nat) (x : T) (l' : List Int) : dpt d ⟨x.f0, l', x.f2, x.f3⟩ = dpt d x := by cases d <;> rfl
theorem wf_u32n {y : Int} (h : (Lit.int .u32 y).wf = true) : ∃ a : Nat, y = (a : Int) ∧ a < 4294967296 := by
  obtain ⟨h0, h1⟩ := wf_u32 h
  exact ⟨y.toNat, by omega, by omega⟩

theorem ones_law (d : Nat) (x : T) (h : Wf d x) (n : Int) : Ev (fun k => lathelaw14_SchedOnes.f k x.f0 x.f1 x.f2 x.f3 n) true := by
  obtain ⟨Kw, hw⟩ := works_ev
  have hg := great_ev d x h
  by_cases c : 9000 < cnt d x
  · rw [decide_eq_true c] at hg
    obtain ⟨K, hg⟩ := hg
    refine ⟨max K Kw, fun k hk => ?_⟩
    have a := hg k (by omega)
    have b := hw k (by omega)
    dsimp only at a b ⊢
    rw [lathelaw14_SchedOnes.f, a, Option.bind_some, if_pos rfl, b]
    rfl
  rw [decide_eq_false c] at hg
  -- the loop is enough
  have enough : Ev (fun k => lathelaw14_SchedOnes.l0 k n 1 x.f0 x.f1 x.f2 x.f3 x.f0 x.f1 x.f2 x.f3) true → Ev (fun k => lathelaw14_SchedOnes.f k x.f0 x.f1 x.f2 x.f3 n) true := by
    intro ⟨K2, h2⟩
    obtain ⟨K, hg⟩ := hg
    obtain ⟨K1, h1⟩ := twin_ev d x h
    refine ⟨max (max K K1) K2, fun k hk => ?_⟩
    have a := hg k (by omega)
    have a1 := h1 k (by omega)
    have a2 := h2 k (by omega)
    dsimp only at a a1 a2 ⊢
    rw [lathelaw14_SchedOnes.f, a, Option.bind_some, if_neg (by decide), a1, Option.bind_some]
    exact a2
  -- where it is enough that works does
  have plain : ∀ (l' : List Int) (r s : Int × Int), ValE x n r → ValE ⟨x.f0, l', x.f2, x.f3⟩ n s → (x.f0 = 5 → r.2 ≠ 0) → Ev (fun k => lathelaw14_SchedOnes.j1 k n x.f0 x.f1 x.f2 x.f3 x.f0 l' x.f2 x.f3) true := by
    intro l' r s ⟨K1, h1⟩ ⟨K2, h2⟩ ho
    refine Ev.of (fun k => (lathelaw14_SchedOnes.mono_l k).1 _ _ _ _ _ _ _ _ _) (k := max (max K1 K2) Kw + 2) ?_
    have a1 := h1 (max (max K1 K2) Kw + 1) (by omega)
    have a2 := h2 (max (max K1 K2) Kw + 1) (by omega)
    have b := hw (max (max K1 K2) Kw) (by omega)
    dsimp only at a1 a2 b
    rw [lathelaw14_SchedOnes.j1, a1, Option.bind_some, a2, Option.bind_some]
    by_cases c5 : x.f0 = 5
    · rw [if_pos c5, show (r.2 != 0) = true from bne_iff_ne.2 (ho c5), lathelaw14_SchedOnes.j2, if_pos rfl, b]
      rfl
    · rw [if_neg c5, lathelaw14_SchedOnes.j2, if_pos rfl, b]
      rfl
  apply enough
  by_cases c5 : x.f0 = 5
  · refine ones_loop x n c5 ?_ ?_ x.f1.length 1 x.f1 (by omega) (by omega) (Ones.start x.f1)
    · cases d with
      | zero => exact h.elim
      | succ d => exact h.2.1
    intro l' ho
    have hwt := ones_wf h ho
    have hct := ones_cnt d x l'
    rcases value_ev d x h (by omega) n with ⟨v, hv, hat, hd, hc4, hm, h0, h1⟩ | hv
    · have hl12 : x.f2.length ≤ 17592186043904 ∧ ∀ y ∈ x.f1, (Lit.int .u32 y).wf = true := by
        cases d with
        | zero => exact h.elim
        | succ d => exact ⟨h.2.2.1, h.2.2.2.2.1⟩
      obtain ⟨hl2, hw1⟩ := hl12
      obtain ⟨e1, e2, e3, hmin⟩ := row_piece hl2 hm c5
      obtain ⟨a, ea, ha⟩ := wf_u32n (hw1 _ (rd_mem (l := x.f1) (i := 0) (by omega)))
      have ea : rd x.f1 0 = (a : Int) := ea
      have hf : rg a < 2139095040 := by
        refine fin_rg a ha ?_
        rw [← ea]
        exact List.all_eq_true.1 (may_true hm).1 _ (rd_mem (l := x.f1) (i := 0) (by omega))
      have hmul : float_Mul.f (a : Int) 1065353216 = some (a : Int) := by
        show some ((fmul (a : Int).toNat (1065353216 : Int).toNat : Nat) : Int) = some (a : Int)
        rw [Int.toNat_natCast, show (1065353216 : Int).toNat = 1065353216 from rfl, fmul_one ha hf]
      have hlen := ho.len
      have hat' : AtE ⟨x.f0, l', x.f2, x.f3⟩ n a := by
        refine piece_at (x := ⟨x.f0, l', x.f2, x.f3⟩) c5 (by show 0 < l'.length; omega) ?_
        show Ev (fun k => sched_at.l0 k n (rd l' 0) x.f2 (x.f2.length : Int) 0 x.f0 l' x.f2 x.f3) (a : Int)
        rw [ho.head, ea]
        exact ones_piece n (a : Int) l' x.f2 x.f0 x.f3 hl2 (by omega) hmul (fun j j1 j2 => ho.one j j1 (by omega) (by omega)) x.f2.length 0 (by omega)
      have hvt := value_ok d _ hwt (by rw [ones_dpt]; exact hd) (by rw [hct]; exact hc4) (ones_may ho c5 hm) n h0 h1 a hat'
      have hearly : ¬ n ≥ rd x.f2 0 → (v : Int) = (a : Int) := by
        intro hn
        refine Ev.uniq hat (piece_at c5 (by omega) ?_)
        rw [ea]
        exact early_piece n (a : Int) x.f1 x.f2 x.f0 x.f3 hl2 (fun j hj => by have := hmin j hj; omega) x.f2.length 0 (by omega)
      obtain ⟨K1, k1⟩ := hv
      obtain ⟨K2, k2⟩ := hvt
      refine Ev.of (fun k => (lathelaw14_SchedOnes.mono_l k).1 _ _ _ _ _ _ _ _ _) (k := max (max K1 K2) Kw + 2) ?_
      have a1 := k1 (max (max K1 K2) Kw + 1) (by omega)
      have a2 := k2 (max (max K1 K2) Kw + 1) (by omega)
      have b := hw (max (max K1 K2) Kw) (by omega)
      dsimp only at a1 a2 b
      rw [lathelaw14_SchedOnes.j1, a1, Option.bind_some, a2, Option.bind_some, if_pos c5, lathelaw14_SchedOnes.j2, if_neg (by simp), if_pos rfl, if_pos (by omega), if_pos ea.symm, if_pos (by omega), b]
      by_cases cn : n ≥ rd x.f2 0
      · rw [if_pos cn]; rfl
      · rw [if_neg cn, if_pos (by rw [ea]; exact hearly cn)]; rfl
    · rcases value_ev d _ hwt (by omega) n with ⟨v', hv', _⟩ | hv'
      · exact plain l' _ _ hv hv' (fun _ => by decide)
      · exact plain l' _ _ hv hv' (fun _ => by decide)
  · have hv : ∃ r, ValE x n r := by
      rcases value_ev d x h (by omega) n with ⟨v, hv, _⟩ | hv
      · exact ⟨_, hv⟩
      · exact ⟨_, hv⟩
    obtain ⟨r, hv⟩ := hv
    obtain ⟨K, hK⟩ := plain x.f1 r r hv hv (fun e => absurd e c5)
    refine Ev.of (fun k => (lathelaw14_SchedOnes.mono_l k).2.2 _ _ _ _ _ _ _ _ _ _) (k := K + 1) ?_
    have a := hK K (Nat.le_refl _)
    dsimp only at a
    rw [lathelaw14_SchedOnes.l0]
    by_cases cl : (1 : Int) < (x.f1.length : Int)
    · rw [if_pos cl, if_neg c5]; exact a
    · rw [if_neg cl]; exact a
end Go.Proofs.YtmfladkimmnccaaDoor.Sto
