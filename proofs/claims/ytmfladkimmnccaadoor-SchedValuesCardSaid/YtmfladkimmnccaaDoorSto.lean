/- Schedules as trees: how many, how deep, whether they may be; that the printed forms answer, with fuel enough. No condition. -/
import Derived.Test.YtmfladkimmnccaaDoorTre
import Derived.Test.YtmfladkimmnccaaDoorPWx1
set_option linter.unusedVariables false
set_option linter.unusedSimpArgs false
namespace Go.Proofs.YtmfladkimmnccaaDoor.Sto
open Go.RowKit Lathe Go.Proofs.YtmfladkimmnccaaDoorW.PrintWords Go.Proofs.YtmfladkimmnccaaDoorW.PrintMore Go.Proofs.YtmfladkimmnccaaDoor.PW Go.Proofs.YtmfladkimmnccaaDoor.Tre Go.Proofs.YtmfladkimmnccaaDoor.Mag Go.Proofs.YtmfladkimmnccaaDoor.Row
open Go.Proofs.YtmfladkimmnccaaDoor.May (fin)

/-- With fuel enough, g answers r. -/
def Ev {α : Type} (g : Nat → Option α) (r : α) : Prop := ∃ K, ∀ k, K ≤ k → g k = some r
theorem Ev.of {α : Type} {g : Nat → Option α} (h : ∀ k, LeO (g k) (g (k + 1))) {k : Nat} {r : α} (hr : g k = some r) : Ev g r := ⟨k, fun k' hk => at_rounds h hk hr⟩
theorem Ev.uniq {α : Type} {g : Nat → Option α} {r s : α} (h : Ev g r) (h' : Ev g s) : r = s := by
  obtain ⟨K, h⟩ := h
  obtain ⟨K', h'⟩ := h'
  have a := h (max K K') (by omega)
  have b := h' (max K K') (by omega)
  rw [a] at b
  exact Option.some.inj b
theorem w64 {n : Int} (h0 : -9223372036854775808 ≤ n) (h1 : n ≤ 9223372036854775807) : wrap64 n = n := by unfold wrap64; omega
abbrev T := S26
theorem rd_at (l : List T) (i : Nat) : rd_T26 l (i : Int) = l.getD i z26 := by unfold rd_T26; rw [Int.toNat_natCast]
theorem drop_at {α : Type} (l : List α) (z : α) {i : Nat} (h : i < l.length) : l.drop i = l.getD i z :: l.drop (i + 1) := by
  rw [List.drop_eq_getElem_cons h]
  simp [List.getD_eq_getElem?_getD, h]
theorem mem_at {α : Type} (l : List α) (z : α) {i : Nat} (h : i < l.length) : l.getD i z ∈ l := by
  rw [List.getD_eq_getElem?_getD, List.getElem?_eq_getElem h]
  exact List.getElem_mem _

/-! ### how many -/
def cnt : Nat → T → Nat
  | 0, _ => 0
  | d + 1, x => 1 + (x.f3.map (cnt d)).sum
theorem count_loop (d : Nat) (ih : ∀ c : T, Wf d c → ∀ m : Nat, m ≤ 9000 → Ev (fun k => lathelaw14_count.f k c.f0 c.f1 c.f2 c.f3 (m : Int)) ((min (cnt d c) (m + 1) : Nat) : Int)) (x : T) (hx : ∀ c ∈ x.f3, Wf d c) (hl : x.f3.length ≤ 1759218604390) (m : Nat) (hm : m ≤ 9000) :
    ∀ (n i q : Nat), i + n = x.f3.length → q ≤ m + 1 → Ev (fun k => lathelaw14_count.l0 k (m : Int) (q : Int) (i : Int) x.f0 x.f1 x.f2 x.f3) ((min (q + ((x.f3.drop i).map (cnt d)).sum) (m + 1) : Nat) : Int)
  | 0, i, q, h, hq => ⟨1, fun k hk => by
    obtain ⟨k, rfl⟩ : ∃ j, k = j + 1 := ⟨k - 1, by omega⟩
    dsimp only
    rw [lathelaw14_count.l0, if_neg (by omega), List.drop_eq_nil_of_le (by omega)]
    simp only [List.map_nil, List.sum_nil]
    congr 1
    omega⟩
  | n + 1, i, q, h, hq => by
    have hi : i < x.f3.length := by omega
    rw [drop_at x.f3 z26 hi]
    simp only [List.map_cons, List.sum_cons]
    by_cases c : q ≤ m
    · obtain ⟨K1, h1⟩ := ih _ (hx _ (mem_at x.f3 z26 hi)) (m - q) (by omega)
      obtain ⟨K2, h2⟩ := count_loop d ih x hx hl m hm n (i + 1) (q + min (cnt d (x.f3.getD i z26)) (m - q + 1)) (by omega) (by omega)
      refine ⟨max K1 K2 + 1, fun k hk => ?_⟩
      obtain ⟨k, rfl⟩ : ∃ j, k = j + 1 := ⟨k - 1, by omega⟩
      have a1 := h1 k (by omega)
      have a2 := h2 k (by omega)
      simp only at a1 a2
      dsimp only
      rw [lathelaw14_count.l0, if_pos (by omega), if_pos (by omega), if_pos (by omega), rd_at, w64 (by omega) (by omega), show ((m : Int) - (q : Int)) = ((m - q : Nat) : Int) by omega, a1]
      simp only [Option.bind_some]
      rw [w64 (by omega) (by omega), w64 (by omega) (by omega), show (q : Int) + ((min (cnt d (x.f3.getD i z26)) (m - q + 1) : Nat) : Int) = ((q + min (cnt d (x.f3.getD i z26)) (m - q + 1) : Nat) : Int) by omega, show (i : Int) + 1 = ((i + 1 : Nat) : Int) by omega, a2]
      congr 2
      omega
    · refine ⟨1, fun k hk => ?_⟩
      obtain ⟨k, rfl⟩ : ∃ j, k = j + 1 := ⟨k - 1, by omega⟩
      dsimp only
      rw [lathelaw14_count.l0, if_pos (by omega), if_neg (by omega)]
      congr 2
      omega
theorem count_ev : ∀ (d : Nat) (x : T), Wf d x → ∀ m : Nat, m ≤ 9000 → Ev (fun k => lathelaw14_count.f k x.f0 x.f1 x.f2 x.f3 (m : Int)) ((min (cnt d x) (m + 1) : Nat) : Int)
  | 0, _, h, _, _ => h.elim
  | d + 1, x, h, m, hm => by
    obtain ⟨_, _, _, hl, _, _, hk⟩ := h
    obtain ⟨K, h1⟩ := count_loop d (count_ev d) x hk hl m hm x.f3.length 0 1 (by omega) (by omega)
    refine ⟨K + 1, fun k hk => ?_⟩
    obtain ⟨k, rfl⟩ : ∃ j, k = j + 1 := ⟨k - 1, by omega⟩
    have a1 := h1 k (by omega)
    simp only [List.drop_zero] at a1
    exact a1
theorem great_ev (d : Nat) (x : T) (h : Wf d x) : Ev (fun k => lathelaw14_great.f k x.f0 x.f1 x.f2 x.f3) (decide (9000 < cnt d x)) := by
  obtain ⟨K, h1⟩ := count_ev d x h 9000 (by omega)
  refine ⟨K, fun k hk => ?_⟩
  have a1 := h1 k hk
  simp only at a1 ⊢
  unfold lathelaw14_great.f
  rw [show (9000 : Int) = ((9000 : Nat) : Int) from rfl, a1]
  simp only [Option.bind_some]
  congr 1
  by_cases c : 9000 < cnt d x
  · rw [decide_eq_true c]; exact decide_eq_true (by omega)
  · rw [decide_eq_false c]; exact decide_eq_false (by omega)

/-! ### how deep, and how many -/
def mxl (l : List Nat) : Nat := l.foldr max 0
def dpt : Nat → T → Nat
  | 0, _ => 0
  | d + 1, x => 1 + mxl (x.f3.map (dpt d))
theorem mx_nat (a b : Nat) : mx (a : Int) (b : Int) = ((max a b : Nat) : Int) := by unfold mx; split <;> omega
theorem counts_loop (d : Nat) (ih : ∀ c : T, Wf d c → cnt d c ≤ 9000 → dpt d c ≤ cnt d c ∧ Ev (fun k => sched_counts.f k c.f0 c.f1 c.f2 c.f3) ((dpt d c : Int), (cnt d c : Int))) (l : List T) (hx : ∀ c ∈ l, Wf d c) (hl : l.length ≤ 1759218604390) :
    ∀ (n i a b : Nat), i + n = l.length → b + ((l.drop i).map (cnt d)).sum ≤ 9000 → a + 1 ≤ b → max a (mxl ((l.drop i).map (dpt d))) + 1 ≤ b + ((l.drop i).map (cnt d)).sum ∧ Ev (fun k => sched_counts.l0 k (a : Int) (b : Int) l (l.length : Int) (i : Int)) (((max a (mxl ((l.drop i).map (dpt d))) + 1 : Nat) : Int), ((b + ((l.drop i).map (cnt d)).sum : Nat) : Int))
  | 0, i, a, b, h, hb, hab => by
    rw [List.drop_eq_nil_of_le (by omega)] at hb ⊢
    simp only [List.map_nil, List.sum_nil, mxl, List.foldr] at hb ⊢
    refine ⟨by omega, 1, fun k hk => ?_⟩
    obtain ⟨k, rfl⟩ : ∃ j, k = j + 1 := ⟨k - 1, by omega⟩
    dsimp only
    rw [sched_counts.l0, if_neg (by omega), w64 (by omega) (by omega)]
    congr 2
    omega
  | n + 1, i, a, b, h, hb, hab => by
    have hi : i < l.length := by omega
    rw [drop_at l z26 hi] at hb ⊢
    simp only [List.map_cons, List.sum_cons, mxl, List.foldr_cons] at hb ⊢
    obtain ⟨hdc, K1, h1⟩ := ih _ (hx _ (mem_at l z26 hi)) (by omega)
    obtain ⟨hd2, K2, h2⟩ := counts_loop d ih l hx hl n (i + 1) (max a (dpt d (l.getD i z26))) (b + cnt d (l.getD i z26)) (by omega) (by omega) (by omega)
    simp only [mxl] at hd2 h2
    refine ⟨by omega, max K1 K2 + 1, fun k hk => ?_⟩
    obtain ⟨k, rfl⟩ : ∃ j, k = j + 1 := ⟨k - 1, by omega⟩
    have a1 := h1 k (by omega)
    have a2 := h2 k (by omega)
    simp only at a1 a2
    dsimp only
    rw [sched_counts.l0, if_pos (by omega), if_pos (by omega), if_pos (by omega), rd_at, a1]
    simp only [Option.bind_some]
    rw [mx_nat, w64 (by omega) (by omega), w64 (by omega) (by omega), show (b : Int) + (cnt d (l.getD i z26) : Int) = ((b + cnt d (l.getD i z26) : Nat) : Int) by omega, show (i : Int) + 1 = ((i + 1 : Nat) : Int) by omega, a2]
    congr 3
    · omega
    · omega
theorem counts_ev : ∀ (d : Nat) (x : T), Wf d x → cnt d x ≤ 9000 → dpt d x ≤ cnt d x ∧ Ev (fun k => sched_counts.f k x.f0 x.f1 x.f2 x.f3) ((dpt d x : Int), (cnt d x : Int))
  | 0, _, h, _ => h.elim
  | d + 1, x, h, hc => by
    obtain ⟨_, _, _, hl, _, _, hk⟩ := h
    rw [cnt] at hc ⊢
    obtain ⟨h0, K, h1⟩ := counts_loop d (counts_ev d) x.f3 hk hl x.f3.length 0 0 1 (by omega) (by rw [List.drop_zero]; omega) (by omega)
    rw [List.drop_zero] at h0 h1
    rw [Nat.zero_max] at h0 h1
    rw [dpt]
    refine ⟨by omega, K + 1, fun k hk => ?_⟩
    obtain ⟨k, rfl⟩ : ∃ j, k = j + 1 := ⟨k - 1, by omega⟩
    have a1 := h1 k (by omega)
    simp only at a1
    rw [show (1 : Nat) + mxl (x.f3.map (dpt d)) = mxl (x.f3.map (dpt d)) + 1 by omega]
    exact a1
end Go.Proofs.YtmfladkimmnccaaDoor.Sto
