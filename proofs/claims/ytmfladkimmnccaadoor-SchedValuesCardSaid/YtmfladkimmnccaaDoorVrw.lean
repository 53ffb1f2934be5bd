/- Schedules as trees: the reference's row, count, check and value. No condition. -/
import Derived.Test.YtmfladkimmnccaaDoorVat
import Derived.Test.YtmfladkimmnccaaDoorPVx20
import Derived.Test.YtmfladkimmnccaaDoorPVx7
import Derived.Test.YtmfladkimmnccaaDoorPVx8
set_option linter.unusedVariables false
set_option linter.unusedSimpArgs false
namespace Go.Proofs.YtmfladkimmnccaaDoor.Sto
open Go.RowKit Lathe Go.Proofs.YtmfladkimmnccaaDoorW.PrintWords Go.Proofs.YtmfladkimmnccaaDoorW.PrintMore Go.Proofs.YtmfladkimmnccaaDoor.PW Go.Proofs.YtmfladkimmnccaaDoor.Tre Go.Proofs.YtmfladkimmnccaaDoor.Mag Go.Proofs.YtmfladkimmnccaaDoor.Row
open Go.Proofs.YtmfladkimmnccaaDoor.May (fin)
open Go.Proofs.YtmfladkimmnccaaDoor.Rle (Finite_f Less_f)

theorem shape_eq (x0 : Int) (l1 l2 : List Int) (l3 : List T) (a b c : Int) : latheref14_shape.f x0 l1 l2 l3 a b c = some (((l1.length : Int) == a) && ((l2.length : Int) == b) && ((l3.length : Int) == c)) := by
  unfold latheref14_shape.f
  by_cases h1 : (l1.length : Int) = a
  · rw [if_pos h1, beq_iff_eq.2 h1]
    by_cases h2 : (l2.length : Int) = b
    · rw [if_pos h2, beq_iff_eq.2 h2]
      rfl
    · rw [if_neg h2, beq_eq_false_iff_ne.2 h2]
      rfl
  · rw [if_neg h1, beq_eq_false_iff_ne.2 h1]
    rfl
theorem shape_has (x0 : Int) (l1 l2 : List Int) (l3 : List T) (a b : Int) : latheref14_shape.f x0 l1 l2 l3 a b 0 = some (has l1.length l2.length l3.length a b) := shape_eq x0 l1 l2 l3 a b 0
theorem in_eq (n a b : Int) : latheref14_in.f n a b = some (win n a b) := by
  unfold latheref14_in.f win
  by_cases h : a ≤ n
  · rw [if_pos h, decide_eq_true h]
    rfl
  · rw [if_neg (by omega), decide_eq_false h]
    rfl
theorem rrising_loop (l : List Int) (hl : l.length ≤ 17592186043904) (b : Bool) : ∀ (n i : Nat) (last : Int), i + n = l.length → 0 ≤ last → last ≤ 2147483647 → (last = if i = 0 then 0 else rd l ((i - 1 : Nat) : Int)) →
    Ev (fun k => sched_rising.l0 k l last l (l.length : Int) (i : Int)) b → Ev (fun k => latheref14_rising.l0 k l (i : Int)) b
  | 0, i, last, h, h0, h1, hz, ⟨K, hK⟩ => ⟨1, fun k hk => by
    obtain ⟨k, rfl⟩ : ∃ j, k = j + 1 := ⟨k - 1, by omega⟩
    have a := hK (K + 1) (by omega)
    dsimp only at a ⊢
    rw [sched_rising.l0, if_neg (by omega)] at a
    rw [latheref14_rising.l0, if_neg (by omega), ← a]
    congr 1⟩
  | n + 1, i, last, h, h0, h1, hz, ⟨K, hK⟩ => by
    have a := hK (K + 1) (by omega)
    dsimp only at a
    rw [sched_rising.l0, if_pos (by omega), if_pos (by omega), if_pos (by omega), w64 (by omega) (by omega)] at a
    unfold sched_within.f at a
    by_cases c : rd l (i : Int) ≥ last + 1 ∧ rd l (i : Int) ≤ 2147483647
    · have nxt : Ev (fun k => sched_rising.l0 k l (rd l (i : Int)) l (l.length : Int) ((i + 1 : Nat) : Int)) b := by
        refine ⟨K, fun k hk => ?_⟩
        have a := hK (k + 1) (by omega)
        dsimp only at a ⊢
        rw [sched_rising.l0, if_pos (by omega), if_pos (by omega), if_pos (by omega), w64 (by omega) (by omega)] at a
        unfold sched_within.f at a
        rw [if_pos c.1, decide_eq_true c.2] at a
        simp only [Option.bind_some] at a
        rw [if_pos trivial, w64 (by omega) (by omega), show (i : Int) + 1 = ((i + 1 : Nat) : Int) by omega] at a
        exact a
      obtain ⟨K2, h2⟩ := rrising_loop l hl b n (i + 1) (rd l (i : Int)) (by omega) (by omega) c.2 (by rw [if_neg (by omega)]; rfl) nxt
      refine ⟨K2 + 1, fun k hk => ?_⟩
      obtain ⟨k, rfl⟩ : ∃ j, k = j + 1 := ⟨k - 1, by omega⟩
      have a2 := h2 k (by omega)
      dsimp only at a2 ⊢
      have hw : win (rd l (i : Int)) 1 2147483647 = true := by
        unfold win
        rw [decide_eq_true (by omega), decide_eq_true c.2]
        rfl
      rw [latheref14_rising.l0, if_pos (by omega), if_pos (by omega), in_eq, hw, Option.bind_some, if_pos rfl]
      have ew : wrap64 ((i : Int) + 1) = ((i + 1 : Nat) : Int) := by rw [w64 (by omega) (by omega)]; omega
      rw [ew]
      by_cases ci : i = 0
      · rw [if_neg (by omega)]
        exact a2
      · have ej : wrap64 ((i : Int) - 1) = ((i - 1 : Nat) : Int) := by rw [w64 (by omega) (by omega)]; omega
        rw [if_neg ci] at hz
        rw [if_pos (by omega), ej, if_pos (by omega), if_pos (by omega), if_neg (by omega)]
        exact a2
    · have hb : b = false := by
        by_cases c1 : rd l (i : Int) ≥ last + 1
        · rw [if_pos c1, decide_eq_false (by omega)] at a
          simp only [Option.bind_some] at a
          rw [if_neg (by decide)] at a
          exact (Option.some.inj a).symm
        · rw [if_neg c1] at a
          simp only [Option.bind_some] at a
          rw [if_neg (by decide)] at a
          exact (Option.some.inj a).symm
      subst hb
      refine ⟨1, fun k hk => ?_⟩
      obtain ⟨k, rfl⟩ : ∃ j, k = j + 1 := ⟨k - 1, by omega⟩
      dsimp only
      rw [latheref14_rising.l0, if_pos (by omega), if_pos (by omega), in_eq, Option.bind_some]
      by_cases hw : win (rd l (i : Int)) 1 2147483647 = true
      · have w := win_true hw
        rw [if_pos hw]
        have ci : i ≠ 0 := by
          intro e
          rw [if_pos e] at hz
          omega
        have ej : wrap64 ((i : Int) - 1) = ((i - 1 : Nat) : Int) := by rw [w64 (by omega) (by omega)]; omega
        rw [if_neg ci] at hz
        rw [if_pos (by omega), ej, if_pos (by omega), if_pos (by omega), if_pos (by omega)]
      · rw [if_neg hw]
theorem rrising_ev (l : List Int) (hl : l.length ≤ 17592186043904) {b : Bool} (h : Ev (fun k => sched_rising.f k l) b) : Ev (fun k => latheref14_rising.f k l) b :=
  rrising_loop l hl b l.length 0 0 (by omega) (by omega) (by omega) (by rw [if_pos rfl]) h
set_option maxHeartbeats 4000000 in
/-- The reference's row, all numbers looked at. -/
theorem rrow_at (x : T) (hw1 : ∀ y ∈ x.f1, (Lit.int .u32 y).wf = true) (hl1 : x.f1.length ≤ 35184372087808) (hl2 : x.f2.length ≤ 17592186043904) (hl3 : x.f3.length ≤ 1759218604390) (b : Bool) (h : Ev (fun k => rowO k x.f0 x.f1 x.f2 x.f3.length) b) : Ev (fun k => latheref14_row.l0 k (x.f1.length : Int) x.f0 x.f1 x.f2 x.f3) b := by
  obtain ⟨r, hr, _⟩ := rising_ev x.f2 hl2
  obtain ⟨K2, hrr⟩ := rrising_ev x.f2 hl2 hr
  obtain ⟨K0, hr⟩ := hr
  obtain ⟨K, h⟩ := h
  refine ⟨K2 + 10, fun k hk => ?_⟩
  obtain ⟨k, rfl⟩ : ∃ j, k = j + 3 := ⟨k - 3, by omega⟩
  have a := h (max K K0) (by omega)
  have ar := hr (max K K0) (by omega)
  have rr : latheref14_rising.f (k + 2) x.f2 = some r := hrr (k + 2) (by omega)
  dsimp only at a ar ⊢
  unfold rowO at a
  rw [ar] at a
  simp only [Option.map_some] at a
  rw [show k + 3 = (k + 2) + 1 from rfl, latheref14_row.l0, if_neg (by omega)]
  have e2 : wrap64 ((x.f2.length : Int) + 1) = (x.f2.length : Int) + 1 := w64 (by omega) (by omega)
  by_cases c1 : x.f0 = 1
  · rw [if_pos c1] at a
    rw [if_pos c1, shape_has, ← a]
    rfl
  rw [if_neg c1] at a
  rw [if_neg c1]
  by_cases c2 : x.f0 = 2
  · rw [if_pos c2] at a
    rw [if_pos c2, shape_has, ← a, Option.bind_some]
    by_cases hS : has x.f1.length x.f2.length x.f3.length 2 3 = true
    · obtain ⟨e1, e2, e3⟩ := has_true hS
      rw [if_pos hS, hS, if_pos (by omega), if_pos (by omega), if_pos (by omega)]
      simp only [in_eq, Option.bind_some]
      cases win (rd x.f2 0) 1 1024 <;> cases win (rd x.f2 1) 1 2147483647 <;> cases win (rd x.f2 2) 0 2147483647 <;> rfl
    · rw [if_neg hS, Bool.eq_false_iff.2 hS]
      rfl
  rw [if_neg c2] at a
  rw [if_neg c2]
  by_cases c3 : x.f0 = 3
  · rw [if_pos c3] at a
    rw [if_pos c3, shape_has, ← a, Option.bind_some]
    by_cases hS : has x.f1.length x.f2.length x.f3.length 2 2 = true
    · obtain ⟨e1, e2, e3⟩ := has_true hS
      obtain ⟨q, hq, hq2⟩ := rd_pat hw1 (i := 1) (by omega)
      have hq : rd x.f1 1 = (q : Int) := hq
      rw [if_pos hS, hS, if_pos (by omega), if_pos (by omega), if_pos (by omega), hq, w64 (by omega) (by omega), show (0 : Int) = ((0 : Nat) : Int) from rfl, Less_f (k + 2) 0 q (by omega) hq2 (by omega)]
      simp only [in_eq, Option.bind_some, Int.toNat_natCast]
      cases flt 0 q <;> cases win (rd x.f2 ((0 : Nat) : Int)) 1 2147483647 <;> cases win (rd x.f2 1) ((0 : Nat) : Int) 2147483647 <;> rfl
    · rw [if_neg hS, Bool.eq_false_iff.2 hS]
      rfl
  rw [if_neg c3] at a
  rw [if_neg c3]
  by_cases c4 : x.f0 = 4
  · rw [if_pos c4] at a
    rw [if_pos c4, shape_has, ← a, Option.bind_some]
    by_cases hS : has x.f1.length x.f2.length x.f3.length 2 1 = true
    · obtain ⟨e1, e2, e3⟩ := has_true hS
      rw [if_pos hS, hS, if_pos (by omega)]
      simp only [in_eq, Option.bind_some]
      rfl
    · rw [if_neg hS, Bool.eq_false_iff.2 hS]
      rfl
  rw [if_neg c4] at a
  rw [if_neg c4]
  by_cases c5 : x.f0 = 5
  · rw [if_pos c5] at a
    rw [if_pos c5, shape_has, ← a, Option.bind_some, e2]
    by_cases hS : has x.f1.length x.f2.length x.f3.length ((x.f2.length : Int) + 1) x.f2.length = true
    · rw [if_pos hS, hS, rr]
      rfl
    · rw [if_neg hS, Bool.eq_false_iff.2 hS]
      rfl
  rw [if_neg c5] at a
  rw [if_neg c5]
  by_cases c6 : x.f0 = 6
  · rw [if_pos c6] at a
    rw [if_pos c6, shape_eq, ← a, Option.bind_some, e2]
    have es : ((((x.f1.length : Int) == 0) && ((x.f2.length : Int) == (x.f2.length : Int))) && ((x.f3.length : Int) == (x.f2.length : Int) + 1)) = (decide (x.f1.length = 0) && ((x.f3.length : Int) == (x.f2.length : Int) + 1)) := by
      rw [beq_self_eq_true, Bool.and_true]
      congr 1
      by_cases e : x.f1.length = 0
      · rw [decide_eq_true e, beq_iff_eq.2 (by omega)]
      · rw [decide_eq_false e, beq_eq_false_iff_ne.2 (by omega)]
    rw [es]
    cases hS : (decide (x.f1.length = 0) && ((x.f3.length : Int) == (x.f2.length : Int) + 1)) with
    | true => rw [if_pos rfl, rr]; rfl
    | false => rw [if_neg (by decide)]; rfl
  rw [if_neg c6] at a
  rw [if_neg c6]
  by_cases c7 : x.f0 = 7
  · rw [if_pos c7] at a
    rw [if_pos c7, shape_has, ← a, Option.bind_some]
    by_cases hS : has x.f1.length x.f2.length x.f3.length 1 1 = true
    · obtain ⟨e1, e2, e3⟩ := has_true hS
      rw [if_pos hS, hS, if_pos (by omega)]
      simp only [in_eq, Option.bind_some]
      rfl
    · rw [if_neg hS, Bool.eq_false_iff.2 hS]
      rfl
  rw [if_neg c7] at a
  rw [if_neg c7]
  have d0 : ∀ (n : Nat) (j : Int) (m : Nat), (m : Int) = j → decide (n = m) = ((n : Int) == j) := by
    intro n j m e
    by_cases h : n = m
    · rw [decide_eq_true h, beq_iff_eq.2 (by omega)]
    · rw [decide_eq_false h, beq_eq_false_iff_ne.2 (by omega)]
  have j1t : latheref14_row.j1 (k + 2) x.f0 true x.f0 x.f1 x.f2 x.f3 = some ((decide (x.f1.length = 0) && decide (x.f2.length = 0)) && ((x.f3.length : Int) == 2)) := by
    rw [show k + 2 = (k + 1) + 1 from rfl, latheref14_row.j1, if_pos rfl, shape_eq, d0 _ 0 0 rfl, d0 _ 0 0 rfl]
    rfl
  by_cases c8 : x.f0 = 8 ∨ x.f0 = 9 ∨ x.f0 = 10 ∨ x.f0 = 11
  · rw [if_pos c8] at a
    rw [← a, ← j1t]
    rcases c8 with c | c | c | c
    · rw [if_pos c, show (x.f0 == 8) = true from beq_iff_eq.2 c]
    · rw [if_neg (by omega), if_pos c, show (x.f0 == 9) = true from beq_iff_eq.2 c]
    · rw [if_neg (by omega), if_neg (by omega), if_pos c, show (x.f0 == 10) = true from beq_iff_eq.2 c]
    · rw [if_neg (by omega), if_neg (by omega), if_neg (by omega), show (x.f0 == 11) = true from beq_iff_eq.2 c]
  rw [if_neg c8] at a
  rw [if_neg (by omega), if_neg (by omega), if_neg (by omega), show (x.f0 == 11) = false from beq_eq_false_iff_ne.2 (by omega), show k + 2 = (k + 1) + 1 from rfl, latheref14_row.j1, if_neg (by decide)]
  have j2t : latheref14_row.j2 (k + 1) true x.f0 x.f1 x.f2 x.f3 = some (((decide (x.f1.length = 0) && decide (x.f2.length = 1)) && win (rd x.f2 0) 0 2147483647) && ((x.f3.length : Int) == 1)) := by
    rw [latheref14_row.j2, if_pos rfl, shape_eq, Option.bind_some, ← d0 _ 0 0 rfl, ← d0 _ 1 1 rfl]
    cases hS : ((decide (x.f1.length = 0) && decide (x.f2.length = 1)) && ((x.f3.length : Int) == 1)) with
    | true =>
      rw [if_pos rfl]
      simp only [Bool.and_eq_true, decide_eq_true_eq] at hS
      rw [if_pos (by omega), in_eq, hS.2, decide_eq_true hS.1.1, decide_eq_true hS.1.2]
      cases win (rd x.f2 0) 0 2147483647 <;> rfl
    | false =>
      rw [if_neg (by decide)]
      revert hS
      cases decide (x.f1.length = 0) <;> cases decide (x.f2.length = 1) <;> cases ((x.f3.length : Int) == 1) <;> cases win (rd x.f2 0) 0 2147483647 <;> simp
  by_cases c12 : x.f0 = 12 ∨ x.f0 = 13
  · rw [if_pos c12] at a
    rw [← a, ← j2t]
    rcases c12 with c | c
    · rw [if_pos c, show (x.f0 == 12) = true from beq_iff_eq.2 c]
    · rw [if_neg (by omega), show (x.f0 == 13) = true from beq_iff_eq.2 c]
  · rw [if_neg c12] at a
    rw [if_neg (by omega), show (x.f0 == 13) = false from beq_eq_false_iff_ne.2 (by omega), latheref14_row.j2, if_neg (by decide), ← a]
theorem rrow_loop (x : T) (hw1 : ∀ y ∈ x.f1, (Lit.int .u32 y).wf = true) (hl1 : x.f1.length ≤ 35184372087808) (b : Bool) (h : Ev (fun k => latheref14_row.l0 k (x.f1.length : Int) x.f0 x.f1 x.f2 x.f3) b) :
    ∀ (n i : Nat), i + n = x.f1.length → Ev (fun k => latheref14_row.l0 k (i : Int) x.f0 x.f1 x.f2 x.f3) ((x.f1.drop i).all fin && b)
  | 0, i, hi => by
    rw [show i = x.f1.length by omega, List.drop_length]
    exact h
  | n + 1, i, hi => by
    have hlt : i < x.f1.length := by omega
    obtain ⟨p, hp, hp2⟩ := rd_pat hw1 hlt
    have hd : x.f1.drop i = rd x.f1 (i : Int) :: x.f1.drop (i + 1) := by
      rw [List.drop_eq_getElem_cons hlt]
      unfold rd
      rw [Int.toNat_natCast, List.getD_eq_getElem?_getD, List.getElem?_eq_getElem hlt]
      rfl
    rw [hd, List.all_cons, hp, fin_eq p hp2]
    obtain ⟨K, hK⟩ := rrow_loop x hw1 hl1 b h n (i + 1) (by omega)
    refine ⟨K + 1, fun k hk => ?_⟩
    obtain ⟨k, rfl⟩ : ∃ j, k = j + 1 := ⟨k - 1, by omega⟩
    have a := hK k (by omega)
    dsimp only at a ⊢
    rw [latheref14_row.l0, if_pos (by omega), if_pos (by omega), hp, w64 (by omega) (by omega), Finite_f p hp2, Option.bind_some]
    by_cases c : rg p < 2139095040
    · rw [decide_eq_true c, if_pos rfl, w64 (by omega) (by omega), show (i : Int) + 1 = ((i + 1 : Nat) : Int) by omega, a]
      rfl
    · rw [decide_eq_false c, if_neg (by decide)]
      rfl
theorem rrow_ev (x : T) (hw1 : ∀ y ∈ x.f1, (Lit.int .u32 y).wf = true) (hl1 : x.f1.length ≤ 35184372087808) (hl2 : x.f2.length ≤ 17592186043904) (hl3 : x.f3.length ≤ 1759218604390) {b : Bool} (h : Ev (fun k => rowO k x.f0 x.f1 x.f2 x.f3.length) b) : Ev (fun k => latheref14_row.f k x.f0 x.f1 x.f2 x.f3) (x.f1.all fin && b) := by
  have := rrow_loop x hw1 hl1 b (rrow_at x hw1 hl1 hl2 hl3 b h) x.f1.length 0 (by omega)
  rw [List.drop_zero] at this
  exact this
end Go.Proofs.YtmfladkimmnccaaDoor.Sto
