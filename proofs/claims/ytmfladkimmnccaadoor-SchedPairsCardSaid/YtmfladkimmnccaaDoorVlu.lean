/- Schedules as trees: what sched.Value answers, and law SchedJoins. No condition. -/
import Derived.Test.YtmfladkimmnccaaDoorStq
import Derived.Test.YtmfladkimmnccaaDoorPWx4
import Derived.Test.YtmfladkimmnccaaDoorPWx5
set_option linter.unusedVariables false
set_option linter.unusedSimpArgs false
namespace Go.Proofs.YtmfladkimmnccaaDoor.Sto
open Go.RowKit Lathe Go.Proofs.YtmfladkimmnccaaDoorW.PrintWords Go.Proofs.YtmfladkimmnccaaDoorW.PrintMore Go.Proofs.YtmfladkimmnccaaDoor.PW Go.Proofs.YtmfladkimmnccaaDoor.Tre Go.Proofs.YtmfladkimmnccaaDoor.Mag Go.Proofs.YtmfladkimmnccaaDoor.Row
open Go.Proofs.YtmfladkimmnccaaDoor.May (fin)

theorem check_ev (d : Nat) (x : T) (h : Wf d x) (hc : cnt d x ≤ 9000) : ∃ e : Int, Ev (fun k => sched_Check.f k x.f0 x.f1 x.f2 x.f3) e ∧ (e = 0 ↔ (dpt d x ≤ 64 ∧ cnt d x ≤ 4096 ∧ MayE x true)) := by
  obtain ⟨_, K1, h1⟩ := counts_ev d x h hc
  obtain ⟨b, hb⟩ := may_ev d x h
  have hu : MayE x true → b = true := fun h' => Ev.uniq hb h'
  have hb' := hb
  obtain ⟨K2, h2⟩ := hb
  by_cases c1 : 64 < dpt d x
  · refine ⟨1, ⟨K1, fun k hk => ?_⟩, ⟨fun h => absurd h (by decide), fun h => by omega⟩⟩
    have a := h1 k hk
    dsimp only at a ⊢
    rw [sched_Check.f, a]
    exact if_pos (by show (dpt d x : Int) > 64; omega)
  by_cases c2 : 4096 < cnt d x
  · refine ⟨1, ⟨K1, fun k hk => ?_⟩, ⟨fun h => absurd h (by decide), fun h => by omega⟩⟩
    have a := h1 k hk
    dsimp only at a ⊢
    rw [sched_Check.f, a, Option.bind_some, if_neg (by show ¬ ((dpt d x : Int) > 64); omega)]
    exact if_pos (by show (cnt d x : Int) > 4096; omega)
  have key : ∀ k, max K1 K2 ≤ k → sched_Check.f k x.f0 x.f1 x.f2 x.f3 = if b = true then some 0 else some 1 := by
    intro k hk
    have a := h1 k (by omega)
    have a2 : sched_may.f k x.f0 x.f1 x.f2 x.f3 = some b := h2 k (by omega)
    dsimp only at a
    rw [sched_Check.f, a, Option.bind_some, if_neg (by show ¬ ((dpt d x : Int) > 64); omega), if_neg (by show ¬ ((cnt d x : Int) > 4096); omega), a2]
    rfl
  cases b with
  | true => exact ⟨0, ⟨_, fun k hk => key k hk⟩, ⟨fun _ => ⟨by omega, by omega, hb'⟩, fun _ => rfl⟩⟩
  | false => exact ⟨1, ⟨_, fun k hk => key k hk⟩, ⟨fun h => absurd h (by decide), fun h => absurd (hu h.2.2) (by decide)⟩⟩

abbrev ValE (x : T) (n : Int) (r : Int × Int) : Prop := Ev (fun k => sched_Value.f k x.f0 x.f1 x.f2 x.f3 n) r
theorem value_ok (d : Nat) (x : T) (h : Wf d x) (hd : dpt d x ≤ 64) (hc : cnt d x ≤ 4096) (hm : MayE x true) (n : Int) (h0 : 0 ≤ n) (h1 : n ≤ 2147483647) (v : Nat) (hv : AtE x n v) : ValE x n ((v : Int), 0) := by
  obtain ⟨e, ⟨K, he⟩, hi⟩ := check_ev d x h (by omega)
  have e0 : e = 0 := hi.2 ⟨hd, hc, hm⟩
  subst e0
  obtain ⟨K', hv⟩ := hv
  refine ⟨max K K', fun k hk => ?_⟩
  have a := he k (by omega)
  have a2 := hv k (by omega)
  dsimp only at a a2 ⊢
  rw [sched_Value.f, a, Option.bind_some, if_pos rfl, sched_within.f, if_pos (by omega), Option.bind_some, if_pos (by simpa using h1), a2]
  rfl
theorem value_ev (d : Nat) (x : T) (h : Wf d x) (hc : cnt d x ≤ 9000) (n : Int) : (∃ v : Nat, ValE x n ((v : Int), 0) ∧ AtE x n v ∧ dpt d x ≤ 64 ∧ cnt d x ≤ 4096 ∧ MayE x true ∧ 0 ≤ n ∧ n ≤ 2147483647) ∨ ValE x n (0, 1) := by
  obtain ⟨e, he, hi⟩ := check_ev d x h hc
  by_cases c : e = 0
  · obtain ⟨hd, hc4, hm⟩ := hi.1 c
    by_cases c2 : 0 ≤ n ∧ n ≤ 2147483647
    · obtain ⟨v, hv⟩ := at_ev d x h hm n
      exact Or.inl ⟨v, value_ok d x h hd hc4 hm n c2.1 c2.2 v hv, hv, hd, hc4, hm, c2.1, c2.2⟩
    · obtain ⟨K, he⟩ := he
      refine Or.inr ⟨K, fun k hk => ?_⟩
      have a := he k hk
      dsimp only at a ⊢
      rw [sched_Value.f, a, Option.bind_some, if_pos c, sched_within.f]
      by_cases c3 : n ≥ 0
      · rw [if_pos c3, Option.bind_some, if_neg (by simp; omega)]
      · rw [if_neg c3]; rfl
  · obtain ⟨K, he⟩ := he
    refine Or.inr ⟨K, fun k hk => ?_⟩
    have a := he k hk
    dsimp only at a ⊢
    rw [sched_Value.f, a, Option.bind_some, if_neg c]

abbrev WorksE : Prop := Ev (fun k => lathelaw14_works.f k) true
theorem works_ev : WorksE := Ev.of (fun k => lathelaw14_works.mono k) (k := 8) (by decide +kernel)

theorem mxl_le {l : List Nat} {a : Nat} (h : a ∈ l) : a ≤ mxl l := by
  induction l with
  | nil => exact absurd h (by simp)
  | cons b l ih =>
    rcases List.mem_cons.1 h with e | e
    · subst e; exact Nat.le_max_left _ _
    · exact Nat.le_trans (ih e) (Nat.le_max_right _ _)
theorem sum_le {l : List Nat} {a : Nat} (h : a ∈ l) : a ≤ l.sum := by
  induction l with
  | nil => exact absurd h (by simp)
  | cons b l ih =>
    rw [List.sum_cons]
    rcases List.mem_cons.1 h with e | e
    · omega
    · have := ih e; omega
theorem kid_dpt {d : Nat} {x c : T} (h : c ∈ x.f3) : dpt d c + 1 ≤ dpt (d + 1) x := by
  have := mxl_le (List.mem_map_of_mem (f := dpt d) h)
  rw [dpt]; omega
theorem kid_cnt {d : Nat} {x c : T} (h : c ∈ x.f3) : cnt d c + 1 ≤ cnt (d + 1) x := by
  have := sum_le (List.mem_map_of_mem (f := cnt d) h)
  rw [cnt]; omega

/-- What the row says of a join. -/
theorem row_join {x : T} (hl : x.f2.length ≤ 17592186043904) (hm : MayE x true) (c6 : x.f0 = 6) : x.f3.length = x.f2.length + 1 ∧ ∀ j : Nat, j < x.f2.length → 1 ≤ rd x.f2 (j : Int) := by
  obtain ⟨hfin, ⟨kr, hr⟩, hkm⟩ := may_true hm
  unfold rowO at hr
  rw [if_neg (by omega), if_neg (by omega), if_neg (by omega), if_neg (by omega), if_neg (by omega), if_pos c6] at hr
  obtain ⟨b, hb1, hb⟩ := Option.map_eq_some_iff.1 hr
  simp only [Bool.and_eq_true, beq_iff_eq, decide_eq_true_eq] at hb
  obtain ⟨b', hb', hr'⟩ := rising_ev x.f2 hl
  have e : b = b' := Ev.uniq (Ev.of (fun k => sched_rising.mono x.f2 k) hb1) hb'
  subst e
  exact ⟨by omega, fun j hj => (hr' (by simp_all) j hj).1⟩

theorem join_at {x : T} {n : Int} (hl2 : x.f2.length ≤ 17592186043904) (h3 : x.f3.length = x.f2.length + 1) (c6 : x.f0 = 6) {v : Nat} (hv : AtE (x.f3.getD (kidOf x.f2 n x.f2.length) z26) (wrap64 (n - fromOf x.f2 (kidOf x.f2 n x.f2.length))) v) : AtE x n v := by
  obtain ⟨K, hK⟩ := join_loop x n hl2 h3 v hv x.f2.length 0 (by omega)
  have a := hK K (Nat.le_refl _)
  dsimp only at a
  refine at_of (k := K + 1) ?_
  rw [sched_at.f, if_neg (by omega), if_neg (by omega), if_neg (by omega), if_neg (by omega), if_pos c6]
  exact a

theorem joins_loop (x : T) (n : Int) (v : Int) (hl : x.f2.length ≤ 17592186043904) (hend : Ev (fun k => lathelaw14_SchedJoins.l0 k n v (kidOf x.f2 n x.f2.length : Int) (x.f2.length : Int) x.f0 x.f1 x.f2 x.f3) true) :
    ∀ m i : Nat, i + m = x.f2.length → Ev (fun k => lathelaw14_SchedJoins.l0 k n v (kidOf x.f2 n i : Int) (i : Int) x.f0 x.f1 x.f2 x.f3) true
  | 0, i, h => by
    have hi : i = x.f2.length := by omega
    subst hi
    exact hend
  | m + 1, i, h => by
    obtain ⟨K, hK⟩ := joins_loop x n v hl hend m (i + 1) (by omega)
    refine Ev.of (fun k => (lathelaw14_SchedJoins.mono_l k).2 _ _ _ _ _ _ _ _) (k := K + 1) ?_
    have a := hK K (Nat.le_refl _)
    dsimp only at a ⊢
    have e : wrap64 ((i : Int) + 1) = ((i + 1 : Nat) : Int) := by rw [w64 (by omega) (by omega)]; rfl
    rw [lathelaw14_SchedJoins.l0, if_pos (by omega), if_pos (by omega), e]
    rw [kidOf] at a
    split at a
    · rename_i c; rw [if_pos c]; exact a
    · rename_i c; rw [if_neg c]; exact a

theorem joins_law (d : Nat) (x : T) (h : Wf d x) (n : Int) : Ev (fun k => lathelaw14_SchedJoins.f k x.f0 x.f1 x.f2 x.f3 n) true := by
  obtain ⟨Kw, hw⟩ := works_ev
  have hg := great_ev d x h
  by_cases c : 9000 < cnt d x
  · rw [decide_eq_true c] at hg
    obtain ⟨K, hg⟩ := hg
    refine ⟨max K Kw, fun k hk => ?_⟩
    have a := hg k (by omega)
    have b := hw k (by omega)
    dsimp only at a b ⊢
    rw [lathelaw14_SchedJoins.f, a, Option.bind_some, if_pos rfl, b]
    rfl
  rw [decide_eq_false c] at hg
  have other : ∀ (r : Int × Int), ValE x n r → (r.2 = 0 → x.f0 ≠ 6) → Ev (fun k => lathelaw14_SchedJoins.f k x.f0 x.f1 x.f2 x.f3 n) true := by
    intro r ⟨K1, h1⟩ ho
    obtain ⟨K, hg⟩ := hg
    refine Ev.of (fun k => lathelaw14_SchedJoins.mono _ _ _ _ _ k) (k := max (max K Kw) K1 + 1) ?_
    have a := hg (max (max K Kw) K1 + 1) (by omega)
    have b := hw (max (max K Kw) K1) (by omega)
    have a1 := h1 (max (max K Kw) K1 + 1) (by omega)
    dsimp only at a b a1
    rw [lathelaw14_SchedJoins.f, a, Option.bind_some, if_neg (by decide), a1, Option.bind_some]
    by_cases c2 : r.2 = 0
    · rw [if_pos c2, show (x.f0 != 6) = true from bne_iff_ne.2 (ho c2), lathelaw14_SchedJoins.j0, if_pos rfl, b]
      rfl
    · rw [if_neg c2, lathelaw14_SchedJoins.j0, if_pos rfl, b]
      rfl
  rcases value_ev d x h (by omega) n with ⟨v, hv, hat, hd, hc4, hm, h0, h1⟩ | hv
  · by_cases c6 : x.f0 = 6
    · cases d with
      | zero => exact h.elim
      | succ d =>
      obtain ⟨_, hl1, hl2, hl3, hw1, hw2, hk⟩ := h
      obtain ⟨h3, hpos⟩ := row_join hl2 hm c6
      obtain ⟨_, _, hkm⟩ := may_true hm
      have hj := kidOf_le x.f2 n x.f2.length
      have hmem := mem_at x.f3 z26 (i := kidOf x.f2 n x.f2.length) (by omega)
      have hre := kidOf_reached x.f2 n x.f2.length
      have hfrom : 0 ≤ n - fromOf x.f2 (kidOf x.f2 n x.f2.length) ∧ n - fromOf x.f2 (kidOf x.f2 n x.f2.length) ≤ n := by
        unfold fromOf
        split
        · omega
        · rename_i c0
          have := hre c0
          have := hpos (kidOf x.f2 n x.f2.length - 1) (by omega)
          omega
      have ew : wrap64 (n - fromOf x.f2 (kidOf x.f2 n x.f2.length)) = n - fromOf x.f2 (kidOf x.f2 n x.f2.length) := w64 (by omega) (by omega)
      obtain ⟨u, hu⟩ := at_ev d _ (hk _ hmem) (hkm _ hmem) (wrap64 (n - fromOf x.f2 (kidOf x.f2 n x.f2.length)))
      have e : (v : Int) = (u : Int) := Ev.uniq hat (join_at hl2 h3 c6 hu)
      rw [ew] at hu
      obtain ⟨K1, hk1⟩ := value_ok d _ (hk _ hmem) (by have := kid_dpt (d := d) hmem; omega) (by have := kid_cnt (d := d) hmem; omega) (hkm _ hmem) _ hfrom.1 (by omega) u hu
      have hend : Ev (fun k => lathelaw14_SchedJoins.l0 k n v (kidOf x.f2 n x.f2.length : Int) (x.f2.length : Int) x.f0 x.f1 x.f2 x.f3) true := by
        refine Ev.of (fun k => (lathelaw14_SchedJoins.mono_l k).2 _ _ _ _ _ _ _ _) (k := max K1 Kw + 1) ?_
        have a := hk1 (max K1 Kw) (by omega)
        have b := hw (max K1 Kw) (by omega)
        dsimp only at a b
        rw [lathelaw14_SchedJoins.l0, if_neg (by omega), rd_at]
        by_cases c0 : kidOf x.f2 n x.f2.length = 0
        · rw [fromOf, if_pos c0, Int.sub_zero] at a
          rw [if_neg (by omega), if_pos (by omega), if_pos (by omega), a, Option.bind_some, if_pos rfl, if_pos e, b]
          rfl
        · have ek : wrap64 ((kidOf x.f2 n x.f2.length : Int) - 1) = ((kidOf x.f2 n x.f2.length - 1 : Nat) : Int) := by rw [w64 (by omega) (by omega)]; omega
          rw [fromOf, if_neg c0] at a ew
          rw [if_pos (by omega), ek, if_pos (by omega), if_pos (by omega), if_pos (by omega), if_pos (by omega), ew, a, Option.bind_some, if_pos rfl, if_pos e, b]
          rfl
      obtain ⟨K2, h2⟩ := joins_loop x n v hl2 hend x.f2.length 0 (by omega)
      obtain ⟨K, hg⟩ := hg
      obtain ⟨K3, h3⟩ := hv
      refine Ev.of (fun k => lathelaw14_SchedJoins.mono _ _ _ _ _ k) (k := max (max K K2) K3 + 1) ?_
      have a := hg (max (max K K2) K3 + 1) (by omega)
      have b := h2 (max (max K K2) K3) (by omega)
      have a1 := h3 (max (max K K2) K3 + 1) (by omega)
      dsimp only at a b a1
      rw [lathelaw14_SchedJoins.f, a, Option.bind_some, if_neg (by decide), a1, Option.bind_some, if_pos rfl, show (x.f0 != 6) = false from by rw [c6]; rfl, lathelaw14_SchedJoins.j0, if_neg (by decide)]
      exact b
    · exact other _ hv (fun _ => c6)
  · exact other _ hv (fun e => absurd e (by decide))
end Go.Proofs.YtmfladkimmnccaaDoor.Sto
