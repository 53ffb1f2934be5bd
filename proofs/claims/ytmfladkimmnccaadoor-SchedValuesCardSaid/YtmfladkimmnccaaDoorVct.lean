/- Schedules as trees: what sched.Value answers. No condition. -/
import Derived.Test.YtmfladkimmnccaaDoorStq
import Derived.Test.YtmfladkimmnccaaDoorPWx4
import Derived.Test.YtmfladkimmnccaaDoorVrw
import Derived.Test.YtmfladkimmnccaaDoorPVx20
import Derived.Test.YtmfladkimmnccaaDoorPVx21
import Derived.Test.YtmfladkimmnccaaDoorPVx8
set_option linter.unusedVariables false
set_option linter.unusedSimpArgs false
namespace Go.Proofs.YtmfladkimmnccaaDoor.Sto
open Go.RowKit Lathe Go.Proofs.YtmfladkimmnccaaDoorW.PrintWords Go.Proofs.YtmfladkimmnccaaDoorW.PrintMore Go.Proofs.YtmfladkimmnccaaDoor.PW Go.Proofs.YtmfladkimmnccaaDoor.Tre Go.Proofs.YtmfladkimmnccaaDoor.Mag Go.Proofs.YtmfladkimmnccaaDoor.Row
open Go.Proofs.YtmfladkimmnccaaDoor.May (fin)

theorem check_ev (d : Nat) (x : T) (h : Wf d x) (hc : cnt d x ≤ 9000) : ∃ e : Int, Ev (fun k => sched_Check.f k x.f0 x.f1 x.f2 x.f3) e ∧ (e = 0 ↔ (dpt d x ≤ 64 ∧ cnt d x ≤ 4096 ∧ MayE x true)) := by
  obtain ⟨_, K1, h1⟩ := counts_ev d x h hc
  obtain ⟨b, hb⟩ := may_ev d x h
  have hu : MayE x true → b = true := fun h' => Ev.uniq hb h'
  have hb' := hb
  obtain ⟨K2, h2⟩ := hb
  by_cases c1 : 64 < dpt d x
  · refine ⟨1, ⟨K1, fun k hk => ?_⟩, ⟨fun h => absurd h (by decide), fun h => by omega⟩⟩
    have a := h1 k hk
    dsimp only at a ⊢
    rw [sched_Check.f, a]
    exact if_pos (by show (dpt d x : Int) > 64; omega)
  by_cases c2 : 4096 < cnt d x
  · refine ⟨1, ⟨K1, fun k hk => ?_⟩, ⟨fun h => absurd h (by decide), fun h => by omega⟩⟩
    have a := h1 k hk
    dsimp only at a ⊢
    rw [sched_Check.f, a, Option.bind_some, if_neg (by show ¬ ((dpt d x : Int) > 64); omega)]
    exact if_pos (by show (cnt d x : Int) > 4096; omega)
  have key : ∀ k, max K1 K2 ≤ k → sched_Check.f k x.f0 x.f1 x.f2 x.f3 = if b = true then some 0 else some 1 := by
    intro k hk
    have a := h1 k (by omega)
    have a2 : sched_may.f k x.f0 x.f1 x.f2 x.f3 = some b := h2 k (by omega)
    dsimp only at a
    rw [sched_Check.f, a, Option.bind_some, if_neg (by show ¬ ((dpt d x : Int) > 64); omega), if_neg (by show ¬ ((cnt d x : Int) > 4096); omega), a2]
    rfl
  cases b with
  | true => exact ⟨0, ⟨_, fun k hk => key k hk⟩, ⟨fun _ => ⟨by omega, by omega, hb'⟩, fun _ => rfl⟩⟩
  | false => exact ⟨1, ⟨_, fun k hk => key k hk⟩, ⟨fun h => absurd h (by decide), fun h => absurd (hu h.2.2) (by decide)⟩⟩

abbrev ValE (x : T) (n : Int) (r : Int × Int) : Prop := Ev (fun k => sched_Value.f k x.f0 x.f1 x.f2 x.f3 n) r
theorem value_ok (d : Nat) (x : T) (h : Wf d x) (hd : dpt d x ≤ 64) (hc : cnt d x ≤ 4096) (hm : MayE x true) (n : Int) (h0 : 0 ≤ n) (h1 : n ≤ 2147483647) (v : Nat) (hv : AtE x n v) : ValE x n ((v : Int), 0) := by
  obtain ⟨e, ⟨K, he⟩, hi⟩ := check_ev d x h (by omega)
  have e0 : e = 0 := hi.2 ⟨hd, hc, hm⟩
  subst e0
  obtain ⟨K', hv⟩ := hv
  refine ⟨max K K', fun k hk => ?_⟩
  have a := he k (by omega)
  have a2 := hv k (by omega)
  dsimp only at a a2 ⊢
  rw [sched_Value.f, a, Option.bind_some, if_pos rfl, sched_within.f, if_pos (by omega), Option.bind_some, if_pos (by simpa using h1), a2]
  rfl
abbrev WorksE : Prop := Ev (fun k => lathelaw14_works.f k) true
theorem works_ev : WorksE := Ev.of (fun k => lathelaw14_works.mono k) (k := 8) (by decide +kernel)

end Go.Proofs.YtmfladkimmnccaaDoor.Sto
set_option linter.unusedVariables false
set_option linter.unusedSimpArgs false
namespace Go.Proofs.YtmfladkimmnccaaDoor.Sto
open Go.RowKit Lathe Go.Proofs.YtmfladkimmnccaaDoorW.PrintWords Go.Proofs.YtmfladkimmnccaaDoorW.PrintMore Go.Proofs.YtmfladkimmnccaaDoor.PW Go.Proofs.YtmfladkimmnccaaDoor.Tre Go.Proofs.YtmfladkimmnccaaDoor.Mag Go.Proofs.YtmfladkimmnccaaDoor.Row
open Go.Proofs.YtmfladkimmnccaaDoor.May (fin)

theorem mxl_le' {l : List Nat} {a : Nat} (h : a ∈ l) : a ≤ mxl l := by
  induction l with
  | nil => simp at h
  | cons b r ih =>
    rw [show mxl (b :: r) = max b (mxl r) from rfl]
    rcases List.mem_cons.1 h with rfl | h
    · omega
    · have := ih h
      omega
theorem mxl_of {l : List Nat} {b : Nat} (h : ∀ a ∈ l, a ≤ b) : mxl l ≤ b := by
  induction l with
  | nil => exact Nat.zero_le _
  | cons a r ih =>
    rw [show mxl (a :: r) = max a (mxl r) from rfl]
    have h1 := h a List.mem_cons_self
    have h2 := ih fun c hc => h c (List.mem_cons_of_mem _ hc)
    omega
theorem kids_all : ∀ l : List T, (∀ c ∈ l, MayE c true) → Ev (fun k => kidsF (fun x => mayF k x.f0 x.f1 x.f2 x.f3) l) true
  | [], _ => ⟨0, fun _ _ => rfl⟩
  | x :: r, h => by
    obtain ⟨K1, h1⟩ := h x List.mem_cons_self
    obtain ⟨K2, h2⟩ := kids_all r (fun c hc => h c (List.mem_cons_of_mem _ hc))
    refine ⟨max K1 K2, fun k hk => ?_⟩
    have a := h1 k (by omega)
    have a2 := h2 k (by omega)
    dsimp only at a a2 ⊢
    rw [kidsF, a]
    simp only [Option.bind_some]
    rw [if_pos trivial]
    exact a2
theorem may_mk {x : T} (hl2 : x.f2.length ≤ 17592186043904) (hf : x.f1.all fin = true) (hr : Ev (fun k => rowO k x.f0 x.f1 x.f2 x.f3.length) true) (hk : ∀ c ∈ x.f3, MayE c true) : MayE x true := by
  obtain ⟨K1, h1⟩ := hr
  obtain ⟨K2, h2⟩ := kids_all x.f3 hk
  have a := h1 (max K1 K2) (by omega)
  have a2 := h2 (max K1 K2) (by omega)
  dsimp only at a a2
  refine Ev.of (fun k => may_mono k x.f0 x.f1 x.f2 x.f3) (k := max K1 K2 + 1) ?_
  rw [mayF, if_pos (by omega), if_pos hf, a, Option.bind_some, if_pos rfl]
  exact a2
def OK (d : Nat) (x : T) (depth most : Nat) : Prop := MayE x true ∧ depth + dpt d x ≤ 65 ∧ cnt d x ≤ most
theorem cnt_pos {d : Nat} {x : T} (h : Wf d x) : 1 ≤ cnt d x ∧ 1 ≤ dpt d x := by
  cases d with
  | zero => exact h.elim
  | succ d => rw [cnt, dpt]; omega
theorem wsub {a b : Nat} (h : b ≤ a) (ha : a ≤ 4096) : wrap64 ((a : Int) - (b : Int)) = ((a - b : Nat) : Int) := by rw [w64 (by omega) (by omega)]; omega
theorem wadd {a b : Nat} (h : a + b ≤ 20000) : wrap64 ((a : Int) + (b : Int)) = ((a + b : Nat) : Int) := by rw [w64 (by omega) (by omega)]; omega
theorem wsuc {a : Nat} (h : a ≤ 1759218604390) : wrap64 ((a : Int) + 1) = ((a + 1 : Nat) : Int) := by rw [w64 (by omega) (by omega)]; omega
set_option maxHeartbeats 1000000 in
theorem rcount_loop (d : Nat) (x : T) (depth most : Nat) (h64 : depth ≤ 64) (hm : most ≤ 4096) (hl3 : x.f3.length ≤ 1759218604390) (hx : ∀ c ∈ x.f3, Wf d c)
    (ih : ∀ c ∈ x.f3, ∀ m : Nat, m ≤ 4096 → ∃ r : Nat, r ≤ 4097 ∧ Ev (fun k => latheref14_count.f k c.f0 c.f1 c.f2 c.f3 ((depth + 1 : Nat) : Int) (m : Int)) (r : Int) ∧ (OK d c (depth + 1) m → r = cnt d c) ∧ (¬ OK d c (depth + 1) m → r = 4097)) :
    ∀ (m i n : Nat), i + m = x.f3.length → n ≤ most → ∃ r : Nat, r ≤ 4097 ∧ Ev (fun k => latheref14_count.l0 k (depth : Int) (most : Int) (n : Int) (i : Int) x.f0 x.f1 x.f2 x.f3) (r : Int) ∧
      (((∀ c ∈ x.f3.drop i, MayE c true ∧ depth + 1 + dpt d c ≤ 65) ∧ n + ((x.f3.drop i).map (cnt d)).sum ≤ most) → r = n + ((x.f3.drop i).map (cnt d)).sum) ∧
      (¬ ((∀ c ∈ x.f3.drop i, MayE c true ∧ depth + 1 + dpt d c ≤ 65) ∧ n + ((x.f3.drop i).map (cnt d)).sum ≤ most) → r = 4097) := by
  intro m
  induction m with
  | zero =>
    intro i n hi hn
    rw [List.drop_eq_nil_of_le (by omega)]
    refine ⟨n, by omega, ⟨1, fun k hk => ?_⟩, fun _ => rfl, fun h => absurd ⟨fun c hc => absurd hc (by simp), by simpa using hn⟩ h⟩
    obtain ⟨k, rfl⟩ : ∃ j, k = j + 1 := ⟨k - 1, by omega⟩
    dsimp only
    rw [latheref14_count.l0, if_neg (by omega)]
  | succ m IH =>
    intro i n hi hn
    have hlt : i < x.f3.length := by omega
    have hmem := mem_at x.f3 z26 hlt
    have p1 : (i : Int) < (x.f3.length : Int) := Int.ofNat_lt.2 hlt
    have p2 : (0 : Int) ≤ (i : Int) := Int.natCast_nonneg i
    have hmn : most - n ≤ 4096 := by omega
    have hi' : i + 1 + m = x.f3.length := by omega
    have st : ∀ k, latheref14_count.l0 (k + 1) (depth : Int) (most : Int) (n : Int) (i : Int) x.f0 x.f1 x.f2 x.f3 = (latheref14_count.f k (x.f3.getD i z26).f0 (x.f3.getD i z26).f1 (x.f3.getD i z26).f2 (x.f3.getD i z26).f3 ((depth + 1 : Nat) : Int) ((most - n : Nat) : Int)).bind fun t => if wrap64 ((n : Int) + t) > (most : Int) then some 4097 else latheref14_count.l0 k (depth : Int) (most : Int) (wrap64 ((n : Int) + t)) ((i + 1 : Nat) : Int) x.f0 x.f1 x.f2 x.f3 := by
      intro k
      have hd : depth ≤ 1759218604390 := by omega
      have hi1 : i ≤ 1759218604390 := by omega
      rw [latheref14_count.l0, if_pos p1, if_pos p2, rd_at, wsub hn hm, wsuc hd, wsuc hi1]
    obtain ⟨q, hq, ⟨K1, h1⟩, ho, hno⟩ := ih _ hmem (most - n) hmn
    have hp := cnt_pos (hx _ hmem)
    rw [drop_at x.f3 z26 hlt]
    simp only [List.map_cons, List.sum_cons, List.mem_cons]
    have hnq : n + q ≤ 20000 := by omega
    by_cases c : OK d (x.f3.getD i z26) (depth + 1) (most - n)
    · have hqe := ho c
      clear ho hno
      obtain ⟨c1, c2, c3⟩ := c
      obtain ⟨r, hr, ⟨K2, h2⟩, hr1, hr2⟩ := IH (i + 1) (n + q) hi' (by omega)
      refine ⟨r, hr, ⟨max K1 K2 + 1, fun k hk => ?_⟩, fun h => ?_, fun h => ?_⟩
      · obtain ⟨k, rfl⟩ : ∃ j, k = j + 1 := ⟨k - 1, by omega⟩
        have a1 := h1 k (by omega)
        have a2 := h2 k (by omega)
        dsimp only at a1 a2 ⊢
        have g : ¬ (((n + q : Nat) : Int) > (most : Int)) := by omega
        rw [st, a1, Option.bind_some, wadd hnq, if_neg g]
        exact a2
      · rw [hr1 ⟨fun y hy => h.1 y (Or.inr hy), by omega⟩]
        omega
      · refine hr2 fun h' => h ⟨fun y hy => ?_, by omega⟩
        rcases hy with rfl | hy
        · exact ⟨c1, c2⟩
        · exact h'.1 y hy
    · have hqe := hno c
      clear ho hno
      refine ⟨4097, by omega, ⟨K1 + 1, fun k hk => ?_⟩, fun h => ?_, fun _ => rfl⟩
      · obtain ⟨k, rfl⟩ : ∃ j, k = j + 1 := ⟨k - 1, by omega⟩
        have a1 := h1 k (by omega)
        dsimp only at a1 ⊢
        have g : ((n + q : Nat) : Int) > (most : Int) := by omega
        rw [st, a1, Option.bind_some, wadd hnq, if_pos g]
        rfl
      · have hy := h.1 _ (Or.inl rfl)
        exact absurd ⟨hy.1, hy.2, by omega⟩ c
theorem rcount : ∀ (d : Nat) (x : T), Wf d x → ∀ depth most : Nat, depth ≤ 65 → most ≤ 4096 → ∃ r : Nat, r ≤ 4097 ∧ Ev (fun k => latheref14_count.f k x.f0 x.f1 x.f2 x.f3 (depth : Int) (most : Int)) (r : Int) ∧ (OK d x depth most → r = cnt d x) ∧ (¬ OK d x depth most → r = 4097)
  | 0, _, h, _, _, _, _ => h.elim
  | d + 1, x, h, depth, most, hd, hm => by
    have hp := cnt_pos h
    obtain ⟨_, hl1, hl2, hl3, hw1, hw2, hk⟩ := h
    by_cases c1 : 64 < depth
    · refine ⟨4097, by omega, ⟨2, fun k hk => ?_⟩, fun h => by have := h.2.1; omega, fun _ => rfl⟩
      obtain ⟨k, rfl⟩ : ∃ j, k = j + 2 := ⟨k - 2, by omega⟩
      dsimp only
      rw [show k + 2 = (k + 1) + 1 from rfl, latheref14_count.f, if_pos (by omega), latheref14_count.j0, if_pos rfl]
      rfl
    by_cases c2 : most < 1
    · refine ⟨4097, by omega, ⟨2, fun k hk => ?_⟩, fun h => by have := h.2.2; omega, fun _ => rfl⟩
      obtain ⟨k, rfl⟩ : ∃ j, k = j + 2 := ⟨k - 2, by omega⟩
      dsimp only
      rw [show k + 2 = (k + 1) + 1 from rfl, latheref14_count.f, if_neg (by omega), if_pos (by omega), latheref14_count.j0, if_pos rfl]
      rfl
    obtain ⟨b, hb⟩ := row_ev x.f0 x.f1 x.f2 x.f3.length hl2
    obtain ⟨K0, h0⟩ := rrow_ev x hw1 hl1 hl2 hl3 hb
    cases hrow : (x.f1.all fin && b) with
    | false =>
      rw [hrow] at h0
      refine ⟨4097, by omega, ⟨K0 + 2, fun k hk => ?_⟩, fun h => ?_, fun _ => rfl⟩
      · obtain ⟨k, rfl⟩ : ∃ j, k = j + 2 := ⟨k - 2, by omega⟩
        have a := h0 (k + 1) (by omega)
        dsimp only at a ⊢
        rw [show k + 2 = (k + 1) + 1 from rfl, latheref14_count.f, if_neg (by omega), if_neg (by omega), a, Option.bind_some, latheref14_count.j0, if_pos (show (!false) = true from rfl)]
        rfl
      · obtain ⟨hf, ⟨k', hr⟩, _⟩ := may_true h.1
        have hb' : b = true := Ev.uniq hb (Ev.of (fun k => row_mono k _ _ _ _) hr)
        rw [hf, hb'] at hrow
        exact absurd hrow (by decide)
    | true =>
      rw [hrow] at h0
      simp only [Bool.and_eq_true] at hrow
      rw [hrow.2] at hb
      obtain ⟨r, hr, ⟨K1, h1⟩, hr1, hr2⟩ := rcount_loop d x depth most (by omega) hm hl3 hk (fun c hc m hm' => rcount d c (hk c hc) (depth + 1) m (by omega) hm') x.f3.length 0 1 (by omega) (by omega)
      rw [List.drop_zero] at hr1 hr2
      have key : OK (d + 1) x depth most ↔ ((∀ c ∈ x.f3, MayE c true ∧ depth + 1 + dpt d c ≤ 65) ∧ 1 + (x.f3.map (cnt d)).sum ≤ most) := by
        unfold OK
        rw [cnt, dpt]
        constructor
        · intro ⟨h1, h2, h3⟩
          refine ⟨fun c hc => ⟨(may_true h1).2.2 c hc, ?_⟩, h3⟩
          have := mxl_le' (List.mem_map_of_mem (f := dpt d) hc)
          omega
        · intro ⟨h1, h2⟩
          refine ⟨may_mk hl2 hrow.1 hb (fun c hc => (h1 c hc).1), ?_, h2⟩
          have := mxl_of (l := x.f3.map (dpt d)) (b := 64 - depth) (fun a ha => by
            obtain ⟨c, hc, rfl⟩ := List.mem_map.1 ha
            have := (h1 c hc).2
            omega)
          omega
      refine ⟨r, hr, ⟨max K0 K1 + 2, fun k hk => ?_⟩, fun h => ?_, fun h => hr2 fun h' => h (key.2 h')⟩
      · obtain ⟨k, rfl⟩ : ∃ j, k = j + 2 := ⟨k - 2, by omega⟩
        have a := h0 (k + 1) (by omega)
        have a1 := h1 k (by omega)
        dsimp only at a a1 ⊢
        rw [show k + 2 = (k + 1) + 1 from rfl, latheref14_count.f, if_neg (by omega), if_neg (by omega), a, Option.bind_some, latheref14_count.j0, if_neg (show ¬ (!true) = true by decide)]
        exact a1
      · rw [hr1 (key.1 h), cnt]
/-- Both checks. -/
theorem checks (d : Nat) (x : T) (h : Wf d x) (hc : cnt d x ≤ 9000) : ∃ e : Int, Ev (fun k => sched_Check.f k x.f0 x.f1 x.f2 x.f3) e ∧ Ev (fun k => latheref14_Check.f k x.f0 x.f1 x.f2 x.f3) e ∧ ((e = 0 ∧ dpt d x ≤ 64 ∧ cnt d x ≤ 4096 ∧ MayE x true) ∨ e = 1) := by
  obtain ⟨_, K1, h1⟩ := counts_ev d x h hc
  obtain ⟨b, hb⟩ := may_ev d x h
  have hu : MayE x true → b = true := fun h' => Ev.uniq hb h'
  have hb' := hb
  obtain ⟨K2, h2⟩ := hb
  obtain ⟨r, hr, ⟨K3, h3⟩, hr1, hr2⟩ := rcount d x h 1 4096 (by omega) (by omega)
  by_cases c : OK d x 1 4096
  · obtain ⟨o1, o2, o3⟩ := c
    have hbt := hu o1
    have hre := hr1 ⟨o1, o2, o3⟩
    subst hbt
    refine ⟨0, ⟨max K1 K2, fun k hk => ?_⟩, ⟨K3, fun k hk => ?_⟩, Or.inl ⟨rfl, by omega, o3, o1⟩⟩
    · have a := h1 k (by omega)
      have a2 : sched_may.f k x.f0 x.f1 x.f2 x.f3 = some true := h2 k (by omega)
      dsimp only at a ⊢
      rw [sched_Check.f, a, Option.bind_some, if_neg (by show ¬ ((dpt d x : Int) > 64); omega), if_neg (by show ¬ ((cnt d x : Int) > 4096); omega), a2]
      rfl
    · have a : latheref14_count.f k x.f0 x.f1 x.f2 x.f3 1 4096 = some (r : Int) := h3 k hk
      dsimp only
      rw [latheref14_Check.f, a, Option.bind_some, if_neg (by omega)]
  · have hre := hr2 c
    subst hre
    refine ⟨1, ⟨max K1 K2, fun k hk => ?_⟩, ⟨K3, fun k hk => ?_⟩, Or.inr rfl⟩
    · have a := h1 k (by omega)
      have a2 : sched_may.f k x.f0 x.f1 x.f2 x.f3 = some b := h2 k (by omega)
      dsimp only at a ⊢
      rw [sched_Check.f, a, Option.bind_some]
      by_cases c1 : 64 < dpt d x
      · exact if_pos (by show (dpt d x : Int) > 64; omega)
      rw [if_neg (by show ¬ ((dpt d x : Int) > 64); omega)]
      by_cases c2 : 4096 < cnt d x
      · exact if_pos (by show (cnt d x : Int) > 4096; omega)
      rw [if_neg (by show ¬ ((cnt d x : Int) > 4096); omega), a2]
      have hbf : b = false := by
        cases b with
        | false => rfl
        | true => exact absurd ⟨hb', by omega, by omega⟩ c
      subst hbf
      rfl
    · have a : latheref14_count.f k x.f0 x.f1 x.f2 x.f3 1 4096 = some ((4097 : Nat) : Int) := h3 k hk
      dsimp only
      rw [latheref14_Check.f, a, Option.bind_some, if_pos (by omega)]
/-- Both values. -/
theorem values (d : Nat) (x : T) (h : Wf d x) (hc : cnt d x ≤ 9000) (n : Int) : ∃ v e : Int, wrap64 v = v ∧ ValE x n (v, e) ∧ Ev (fun k => latheref14_Value.f k x.f0 x.f1 x.f2 x.f3 n) (v, e) := by
  obtain ⟨e, ⟨K1, he⟩, ⟨K2, hr⟩, hor⟩ := checks d x h hc
  rcases hor with ⟨rfl, hd, hc4, hm⟩ | rfl
  · by_cases c2 : 0 ≤ n ∧ n ≤ 2147483647
    · obtain ⟨v, hv, hat, ⟨K3, hra⟩⟩ := at_both d x h hm n (by omega) (by omega)
      refine ⟨v, 0, w64 (by omega) (by omega), value_ok d x h hd hc4 hm n c2.1 c2.2 v hat, ⟨max K2 K3, fun k hk => ?_⟩⟩
      have a := hr k (by omega)
      have a2 := hra k (by omega)
      have hw : win n 0 2147483647 = true := by
        unfold win
        rw [decide_eq_true c2.1, decide_eq_true c2.2]
        rfl
      dsimp only at a a2 ⊢
      rw [latheref14_Value.f, a, Option.bind_some, if_pos rfl, in_eq, hw, Option.bind_some, if_pos rfl, a2, Option.bind_some]
    · refine ⟨0, 1, w64 (by decide) (by decide), ⟨K1, fun k hk => ?_⟩, ⟨K2, fun k hk => ?_⟩⟩
      · have a := he k hk
        dsimp only at a ⊢
        rw [sched_Value.f, a, Option.bind_some, if_pos rfl, sched_within.f]
        by_cases c3 : n ≥ 0
        · rw [if_pos c3, Option.bind_some, if_neg (by simp; omega)]
        · rw [if_neg c3]; rfl
      · have a := hr k hk
        have hw : ¬ win n 0 2147483647 = true := fun hh => c2 (win_true hh)
        dsimp only at a ⊢
        rw [latheref14_Value.f, a, Option.bind_some, if_pos rfl, in_eq, Option.bind_some, if_neg hw]
  · refine ⟨0, 1, w64 (by decide) (by decide), ⟨K1, fun k hk => ?_⟩, ⟨K2, fun k hk => ?_⟩⟩
    · have a := he k hk
      dsimp only at a ⊢
      rw [sched_Value.f, a, Option.bind_some, if_neg (by decide)]
    · have a := hr k hk
      dsimp only at a ⊢
      rw [latheref14_Value.f, a, Option.bind_some, if_neg (by decide)]
theorem same_l2 (x : T) (hl3 : x.f3.length ≤ 1759218604390) (ih : ∀ c ∈ x.f3, Ev (fun k => lathelaw14_same.f k c.f0 c.f1 c.f2 c.f3 c.f0 c.f1 c.f2 c.f3) true) : ∀ m i : Nat, i + m = x.f3.length → Ev (fun k => lathelaw14_same.l2 k (i : Int) x.f0 x.f1 x.f2 x.f3 x.f0 x.f1 x.f2 x.f3) true
  | 0, i, h => ⟨1, fun k hk => by
    obtain ⟨k, rfl⟩ : ∃ j, k = j + 1 := ⟨k - 1, by omega⟩
    dsimp only
    rw [lathelaw14_same.l2, if_neg (by omega)]⟩
  | m + 1, i, h => by
    obtain ⟨K1, h1⟩ := ih _ (mem_at x.f3 z26 (i := i) (by omega))
    obtain ⟨K2, h2⟩ := same_l2 x hl3 ih m (i + 1) (by omega)
    refine ⟨max K1 K2 + 1, fun k hk => ?_⟩
    obtain ⟨k, rfl⟩ : ∃ j, k = j + 1 := ⟨k - 1, by omega⟩
    have a1 := h1 k (by omega)
    have a2 := h2 k (by omega)
    dsimp only at a1 a2 ⊢
    rw [lathelaw14_same.l2, if_pos (by omega), if_pos (by omega), if_pos (by omega), rd_at, a1, Option.bind_some, if_pos rfl, w64 (by omega) (by omega), show (i : Int) + 1 = ((i + 1 : Nat) : Int) by omega]
    exact a2
theorem same_l1 (x : T) (hl2 : x.f2.length ≤ 17592186043904) (h0 : Ev (fun k => lathelaw14_same.l2 k 0 x.f0 x.f1 x.f2 x.f3 x.f0 x.f1 x.f2 x.f3) true) : ∀ m i : Nat, i + m = x.f2.length → Ev (fun k => lathelaw14_same.l1 k (i : Int) x.f0 x.f1 x.f2 x.f3 x.f0 x.f1 x.f2 x.f3) true
  | 0, i, h => by
    obtain ⟨K, h0⟩ := h0
    refine ⟨K + 1, fun k hk => ?_⟩
    obtain ⟨k, rfl⟩ : ∃ j, k = j + 1 := ⟨k - 1, by omega⟩
    have a := h0 k (by omega)
    dsimp only at a ⊢
    rw [lathelaw14_same.l1, if_neg (by omega)]
    exact a
  | m + 1, i, h => by
    obtain ⟨K2, h2⟩ := same_l1 x hl2 h0 m (i + 1) (by omega)
    refine ⟨K2 + 1, fun k hk => ?_⟩
    obtain ⟨k, rfl⟩ : ∃ j, k = j + 1 := ⟨k - 1, by omega⟩
    have a2 := h2 k (by omega)
    dsimp only at a2 ⊢
    rw [lathelaw14_same.l1, if_pos (by omega), if_pos (by omega), if_pos (by omega), if_pos rfl, w64 (by omega) (by omega), show (i : Int) + 1 = ((i + 1 : Nat) : Int) by omega]
    exact a2
theorem same_l0 (x : T) (hl1 : x.f1.length ≤ 35184372087808) (h0 : Ev (fun k => lathelaw14_same.l1 k 0 x.f0 x.f1 x.f2 x.f3 x.f0 x.f1 x.f2 x.f3) true) : ∀ m i : Nat, i + m = x.f1.length → Ev (fun k => lathelaw14_same.l0 k (i : Int) x.f0 x.f1 x.f2 x.f3 x.f0 x.f1 x.f2 x.f3) true
  | 0, i, h => by
    obtain ⟨K, h0⟩ := h0
    refine ⟨K + 1, fun k hk => ?_⟩
    obtain ⟨k, rfl⟩ : ∃ j, k = j + 1 := ⟨k - 1, by omega⟩
    have a := h0 k (by omega)
    dsimp only at a ⊢
    rw [lathelaw14_same.l0, if_neg (by omega)]
    exact a
  | m + 1, i, h => by
    obtain ⟨K2, h2⟩ := same_l0 x hl1 h0 m (i + 1) (by omega)
    refine ⟨K2 + 1, fun k hk => ?_⟩
    obtain ⟨k, rfl⟩ : ∃ j, k = j + 1 := ⟨k - 1, by omega⟩
    have a2 := h2 k (by omega)
    dsimp only at a2 ⊢
    rw [lathelaw14_same.l0, if_pos (by omega), if_pos (by omega), if_pos (by omega), if_pos rfl, w64 (by omega) (by omega), show (i : Int) + 1 = ((i + 1 : Nat) : Int) by omega]
    exact a2
theorem same_ev : ∀ (d : Nat) (x : T), Wf d x → Ev (fun k => lathelaw14_same.f k x.f0 x.f1 x.f2 x.f3 x.f0 x.f1 x.f2 x.f3) true
  | 0, _, h => h.elim
  | d + 1, x, h => by
    obtain ⟨_, hl1, hl2, hl3, _, _, hk⟩ := h
    have s2 := same_l2 x hl3 (fun c hc => same_ev d c (hk c hc)) x.f3.length 0 (by omega)
    have s1 := same_l1 x hl2 s2 x.f2.length 0 (by omega)
    obtain ⟨K, s0⟩ := same_l0 x hl1 s1 x.f1.length 0 (by omega)
    refine ⟨K + 2, fun k hk => ?_⟩
    obtain ⟨k, rfl⟩ : ∃ j, k = j + 2 := ⟨k - 2, by omega⟩
    have a : lathelaw14_same.l0 k 0 x.f0 x.f1 x.f2 x.f3 x.f0 x.f1 x.f2 x.f3 = some true := s0 k (by omega)
    dsimp only
    rw [show k + 2 = (k + 1) + 1 from rfl, lathelaw14_same.f, if_pos rfl, if_pos rfl, if_pos rfl, show ((x.f3.length : Int) != (x.f3.length : Int)) = false from bne_eq_false_iff_eq.2 rfl, lathelaw14_same.j0, if_neg (by decide)]
    exact a
end Go.Proofs.YtmfladkimmnccaaDoor.Sto
