/- Schedules as trees: that may and at answer, with fuel enough. No condition. -/
import Derived.Test.YtmfladkimmnccaaDoorSto
import Derived.Test.YtmfladkimmnccaaDoorPWx2
set_option linter.unusedVariables false
set_option linter.unusedSimpArgs false
namespace Go.Proofs.YtmfladkimmnccaaDoor.Sto
open Go.RowKit Lathe Go.Proofs.YtmfladkimmnccaaDoorW.PrintWords Go.Proofs.YtmfladkimmnccaaDoorW.PrintMore Go.Proofs.YtmfladkimmnccaaDoor.PW Go.Proofs.YtmfladkimmnccaaDoor.Tre Go.Proofs.YtmfladkimmnccaaDoor.Mag Go.Proofs.YtmfladkimmnccaaDoor.Row
open Go.Proofs.YtmfladkimmnccaaDoor.May (fin)

theorem rising_loop (l : List Int) (hl : l.length ≤ 17592186043904) : ∀ (n i : Nat) (last : Int), i + n = l.length → 0 ≤ last → last ≤ 2147483647 → ∃ b, Ev (fun k => sched_rising.l0 k l last l (l.length : Int) (i : Int)) b ∧ (b = true → ∀ j : Nat, i ≤ j → j < l.length → 1 ≤ rd l (j : Int) ∧ rd l (j : Int) ≤ 2147483647)
  | 0, i, last, h, h0, h1 => ⟨_, ⟨1, fun k hk => by
    obtain ⟨k, rfl⟩ : ∃ j, k = j + 1 := ⟨k - 1, by omega⟩
    dsimp only
    rw [sched_rising.l0, if_neg (by omega)]⟩, fun _ j h2 h3 => absurd h3 (by omega)⟩
  | n + 1, i, last, h, h0, h1 => by
    by_cases c : rd l (i : Int) ≥ last + 1 ∧ rd l (i : Int) ≤ 2147483647
    · obtain ⟨b, ⟨K, hK⟩, hb⟩ := rising_loop l hl n (i + 1) (rd l (i : Int)) (by omega) (by omega) c.2
      refine ⟨b, ⟨K + 1, fun k hk => ?_⟩, fun e j h2 h3 => ?_⟩
      · obtain ⟨k, rfl⟩ : ∃ j, k = j + 1 := ⟨k - 1, by omega⟩
        have a1 := hK k (by omega)
        dsimp only at a1 ⊢
        rw [sched_rising.l0, if_pos (by omega), if_pos (by omega), if_pos (by omega), w64 (by omega) (by omega)]
        unfold sched_within.f
        rw [if_pos c.1, decide_eq_true c.2]
        simp only [Option.bind_some]
        rw [if_pos trivial, w64 (by omega) (by omega), show (i : Int) + 1 = ((i + 1 : Nat) : Int) by omega]
        exact a1
      · by_cases e2 : j = i
        · subst e2; omega
        · exact hb e j (by omega) h3
    · refine ⟨false, ⟨1, fun k hk => ?_⟩, fun e => by cases e⟩
      obtain ⟨k, rfl⟩ : ∃ j, k = j + 1 := ⟨k - 1, by omega⟩
      dsimp only
      rw [sched_rising.l0, if_pos (by omega), if_pos (by omega), if_pos (by omega), w64 (by omega) (by omega)]
      unfold sched_within.f
      by_cases c1 : rd l (i : Int) ≥ last + 1
      · rw [if_pos c1, decide_eq_false (by omega)]
        simp only [Option.bind_some]
        rw [if_neg (by decide)]
      · rw [if_neg c1]
        simp only [Option.bind_some]
        rw [if_neg (by decide)]
theorem rising_ev (l : List Int) (hl : l.length ≤ 17592186043904) : ∃ b, Ev (fun k => sched_rising.f k l) b ∧ (b = true → ∀ j : Nat, j < l.length → 1 ≤ rd l (j : Int) ∧ rd l (j : Int) ≤ 2147483647) := by
  obtain ⟨b, h1, h2⟩ := rising_loop l hl l.length 0 0 (by omega) (by omega) (by omega)
  exact ⟨b, h1, fun e j hj => h2 e j (by omega) hj⟩
theorem row_ev (op : Int) (l1 l2 : List Int) (n3 : Nat) (hl : l2.length ≤ 17592186043904) : ∃ b, Ev (fun k => rowO k op l1 l2 n3) b := by
  obtain ⟨r, ⟨K, hr⟩, _⟩ := rising_ev l2 hl
  have a := hr K (Nat.le_refl _)
  dsimp only at a
  have key : ∃ b, rowO K op l1 l2 n3 = some b := by
    unfold rowO
    rw [a]
    simp only [Option.map_some]
    repeat' first
      | exact ⟨_, rfl⟩
      | split
  obtain ⟨b, hb⟩ := key
  exact ⟨b, Ev.of (fun k => row_mono k op l1 l2 n3) hb⟩
abbrev MayE (x : T) (b : Bool) : Prop := Ev (fun k => mayF k x.f0 x.f1 x.f2 x.f3) b
theorem kids_ev : ∀ l : List T, (∀ c ∈ l, ∃ b, MayE c b) → ∃ b, Ev (fun k => kidsF (fun x => mayF k x.f0 x.f1 x.f2 x.f3) l) b
  | [], _ => ⟨true, 0, fun _ _ => rfl⟩
  | x :: r, h => by
    obtain ⟨b, K1, h1⟩ := h x List.mem_cons_self
    obtain ⟨b2, K2, h2⟩ := kids_ev r (fun c hc => h c (List.mem_cons_of_mem _ hc))
    cases b with
    | false => exact ⟨false, K1, fun k hk => by
        have a := h1 k hk
        dsimp only at a ⊢
        rw [kidsF, a]
        rfl⟩
    | true => exact ⟨b2, max K1 K2, fun k hk => by
        have a := h1 k (by omega)
        have a2 := h2 k (by omega)
        dsimp only at a a2 ⊢
        rw [kidsF, a]
        simp only [Option.bind_some]
        rw [if_pos trivial]
        exact a2⟩
theorem may_ev : ∀ (d : Nat) (x : T), Wf d x → ∃ b, MayE x b
  | 0, _, h => h.elim
  | d + 1, x, h => by
    obtain ⟨_, _, hl2, _, _, _, hk⟩ := h
    obtain ⟨b, K1, h1⟩ := row_ev x.f0 x.f1 x.f2 x.f3.length hl2
    obtain ⟨b2, K2, h2⟩ := kids_ev x.f3 (fun c hc => may_ev d c (hk c hc))
    have a := h1 (max K1 K2) (by omega)
    have a2 := h2 (max K1 K2) (by omega)
    dsimp only at a a2
    have key : ∃ r, mayF (max K1 K2 + 1) x.f0 x.f1 x.f2 x.f3 = some r := by
      rw [mayF, if_pos (by omega), a, a2]
      simp only [Option.bind_some]
      repeat' first
        | exact ⟨_, rfl⟩
        | split
    obtain ⟨r, hr⟩ := key
    exact ⟨r, Ev.of (fun k => may_mono k x.f0 x.f1 x.f2 x.f3) hr⟩
theorem kids_true (G : T → Option Bool) : ∀ l : List T, kidsF G l = some true → ∀ c ∈ l, G c = some true
  | [], _, c, hc => by simp at hc
  | x :: r, h, c, hc => by
    rw [kidsF, Option.bind_eq_some_iff] at h
    obtain ⟨b, hb, h⟩ := h
    cases b with
    | false => rw [if_neg (by decide)] at h; cases h
    | true =>
      rw [if_pos rfl] at h
      rcases List.mem_cons.1 hc with rfl | hc
      · exact hb
      · exact kids_true G r h c hc
theorem may_true {x : T} (h : MayE x true) : x.f1.all fin = true ∧ (∃ k, rowO k x.f0 x.f1 x.f2 x.f3.length = some true) ∧ ∀ c ∈ x.f3, MayE c true := by
  obtain ⟨K, h⟩ := h
  have a := h (K + 1) (by omega)
  dsimp only at a
  rw [mayF] at a
  split at a
  case isFalse => cases a
  split at a
  case isFalse => cases a
  rename_i ha
  obtain ⟨b, hb, a⟩ := Option.bind_eq_some_iff.1 a
  cases b with
  | false => rw [if_neg (by decide)] at a; cases a
  | true =>
    rw [if_pos rfl] at a
    exact ⟨ha, ⟨K, hb⟩, fun c hc => Ev.of (fun k => may_mono k c.f0 c.f1 c.f2 c.f3) (kids_true _ _ a c hc)⟩

/-! ### at -/
abbrev AtE (x : T) (n : Int) (v : Nat) : Prop := Ev (fun k => sched_at.f k x.f0 x.f1 x.f2 x.f3 n) (v : Int)
/-- Which kid of a join speaks: the last whose boundary is reached, among the first i boundaries. -/
def kidOf (l2 : List Int) (n : Int) : Nat → Nat
  | 0 => 0
  | i + 1 => if rd l2 (i : Int) ≤ n then i + 1 else kidOf l2 n i
theorem kidOf_le (l2 : List Int) (n : Int) : ∀ i, kidOf l2 n i ≤ i
  | 0 => Nat.le_refl _
  | i + 1 => by
    have := kidOf_le l2 n i
    rw [kidOf]
    split <;> omega
def fromOf (l2 : List Int) (j : Nat) : Int := if j = 0 then 0 else rd l2 ((j - 1 : Nat) : Int)
theorem join_loop (x : T) (n : Int) (hl : x.f2.length ≤ 17592186043904) (h3 : x.f3.length = x.f2.length + 1) (v : Nat)
    (hv : AtE (x.f3.getD (kidOf x.f2 n x.f2.length) z26) (wrap64 (n - fromOf x.f2 (kidOf x.f2 n x.f2.length))) v) :
    ∀ m i : Nat, i + m = x.f2.length → Ev (fun k => sched_at.l1 k n (kidOf x.f2 n i : Int) (fromOf x.f2 (kidOf x.f2 n i)) x.f2 (x.f2.length : Int) (i : Int) x.f0 x.f1 x.f2 x.f3) (v : Int)
  | 0, i, h => by
    have hi : i = x.f2.length := by omega
    subst hi
    obtain ⟨K, h1⟩ := hv
    refine ⟨K + 1, fun k hk => ?_⟩
    obtain ⟨k, rfl⟩ : ∃ j, k = j + 1 := ⟨k - 1, by omega⟩
    have a := h1 k (by omega)
    have := kidOf_le x.f2 n x.f2.length
    dsimp only at a ⊢
    rw [sched_at.l1, if_neg (by omega), if_pos (by omega), if_pos (by omega), rd_at, a]
    rfl
  | m + 1, i, h => by
    obtain ⟨K, h1⟩ := join_loop x n hl h3 v hv m (i + 1) (by omega)
    refine ⟨K + 1, fun k hk => ?_⟩
    obtain ⟨k, rfl⟩ : ∃ j, k = j + 1 := ⟨k - 1, by omega⟩
    have a := h1 k (by omega)
    dsimp only at a ⊢
    rw [sched_at.l1, if_pos (by omega), if_pos (by omega), if_pos (by omega)]
    rw [w64 (by omega) (by omega), show (i : Int) + 1 = ((i + 1 : Nat) : Int) by omega]
    by_cases c : rd x.f2 (i : Int) ≤ n
    · rw [if_pos c]
      have e : kidOf x.f2 n (i + 1) = i + 1 := by rw [kidOf, if_pos c]
      rw [e] at a
      have e2 : fromOf x.f2 (i + 1) = rd x.f2 (i : Int) := by unfold fromOf; rw [if_neg (by omega)]; rfl
      rw [e2] at a
      exact a
    · rw [if_neg c]
      have e : kidOf x.f2 n (i + 1) = kidOf x.f2 n i := by rw [kidOf, if_neg c]
      rw [e] at a
      exact a
end Go.Proofs.YtmfladkimmnccaaDoor.Sto
set_option linter.unusedVariables false
set_option linter.unusedSimpArgs false
namespace Go.Proofs.YtmfladkimmnccaaDoor.Sto
open Go.RowKit Lathe Go.Proofs.YtmfladkimmnccaaDoorW.PrintWords Go.Proofs.YtmfladkimmnccaaDoorW.PrintMore Go.Proofs.YtmfladkimmnccaaDoor.PW Go.Proofs.YtmfladkimmnccaaDoor.Tre Go.Proofs.YtmfladkimmnccaaDoor.Mag Go.Proofs.YtmfladkimmnccaaDoor.Row
open Go.Proofs.YtmfladkimmnccaaDoor.May (fin)

theorem wf_u32 {y : Int} (h : (Lit.int .u32 y).wf = true) : 0 ≤ y ∧ y < 4294967296 := by
  simp [Lit.wf, IntKind.min, IntKind.max, IntKind.signed, IntKind.bits] at h
  omega
theorem rd_mem {l : List Int} {i : Nat} (h : i < l.length) : rd l (i : Int) ∈ l := by
  unfold rd
  rw [Int.toNat_natCast, List.getD_eq_getElem?_getD, List.getElem?_eq_getElem h]
  exact List.getElem_mem _
theorem at_of {x : T} {n : Int} {k v : Nat} (h : sched_at.f k x.f0 x.f1 x.f2 x.f3 n = some (v : Int)) : AtE x n v := Ev.of (fun k => sched_at.mono x.f0 x.f1 x.f2 x.f3 n k) h
theorem wrap_le (n : Int) : wrap64 n ≤ 9223372036854775807 := by unfold wrap64; omega
/-- What the row says of lengths. -/
theorem has_true {n1 n2 n3 : Nat} {a b : Int} (h : has n1 n2 n3 a b = true) : (n1 : Int) = a ∧ (n2 : Int) = b ∧ n3 = 0 := by
  unfold has at h
  simp only [Bool.and_eq_true, beq_iff_eq] at h
  omega
theorem win_true {n a b : Int} (h : win n a b = true) : a ≤ n ∧ n ≤ b := by
  unfold win at h
  simpa only [Bool.and_eq_true, decide_eq_true_eq] using h
end Go.Proofs.YtmfladkimmnccaaDoor.Sto
