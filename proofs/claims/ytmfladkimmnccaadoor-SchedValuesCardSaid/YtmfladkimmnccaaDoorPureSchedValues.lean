/- Schedules as trees: what twin answers. No condition. -/
import Derived.Test.YtmfladkimmnccaaDoorSto
import Derived.Test.YtmfladkimmnccaaDoorPWx6
import Derived.Test.YtmfladkimmnccaaDoorVct
import Derived.Test.YtmfladkimmnccaaDoorPVx22
set_option linter.unusedVariables false
set_option linter.unusedSimpArgs false
namespace Go.Proofs.YtmfladkimmnccaaDoor.Sto
open Go.RowKit Lathe Go.Proofs.YtmfladkimmnccaaDoorW.PrintWords Go.Proofs.YtmfladkimmnccaaDoorW.PrintMore Go.Proofs.YtmfladkimmnccaaDoor.PW Go.Proofs.YtmfladkimmnccaaDoor.Tre Go.Proofs.YtmfladkimmnccaaDoor.Mag Go.Proofs.YtmfladkimmnccaaDoor.Row
open Go.Proofs.YtmfladkimmnccaaDoor.May (fin)

/-! ### twin -/
theorem take_at {α : Type} (l : List α) (z : α) {i : Nat} (h : i < l.length) : l.take (i + 1) = l.take i ++ [l.getD i z] := by
  rw [List.take_add_one, List.getD_eq_getElem?_getD, List.getElem?_eq_getElem h]
  rfl
theorem twin_loop (d : Nat) (ih : ∀ c : T, Wf d c → Ev (fun k => lathelaw14_twin.f k c.f0 c.f1 c.f2 c.f3) (c.f0, c.f1, c.f2, c.f3)) (x : T) (hx : ∀ c ∈ x.f3, Wf d c) (hl : x.f3.length ≤ 1759218604390) (a0 : Int) (l1 l2 : List Int) :
    ∀ m i : Nat, i + m = x.f3.length → Ev (fun k => lathelaw14_twin.l0 k (i : Int) x.f0 x.f1 x.f2 x.f3 a0 l1 l2 (x.f3.take i)) (a0, l1, l2, x.f3)
  | 0, i, h => by
    refine Ev.of (fun k => (lathelaw14_twin.mono_l k).2 _ _ _ _ _ _ _ _ _) (k := 1) ?_
    rw [lathelaw14_twin.l0, if_neg (by omega), List.take_of_length_le (by omega)]
  | m + 1, i, h => by
    have hi : i < x.f3.length := by omega
    obtain ⟨K1, h1⟩ := ih _ (hx _ (mem_at x.f3 z26 hi))
    obtain ⟨K2, h2⟩ := twin_loop d ih x hx hl a0 l1 l2 m (i + 1) (by omega)
    refine Ev.of (fun k => (lathelaw14_twin.mono_l k).2 _ _ _ _ _ _ _ _ _) (k := max K1 K2 + 1) ?_
    have a := h1 (max K1 K2) (by omega)
    have b := h2 (max K1 K2) (by omega)
    dsimp only at a b
    have e : wrap64 ((i : Int) + 1) = ((i + 1 : Nat) : Int) := by rw [w64 (by omega) (by omega)]; rfl
    rw [lathelaw14_twin.l0, if_pos (by omega), if_pos (by omega), rd_at, a, Option.bind_some, if_pos (by rw [List.length_take]; omega), e]
    rw [take_at x.f3 z26 hi] at b
    revert b
    generalize x.f3.getD i z26 = c
    intro b
    cases c
    exact b
theorem twin_ev : ∀ (d : Nat) (x : T), Wf d x → Ev (fun k => lathelaw14_twin.f k x.f0 x.f1 x.f2 x.f3) (x.f0, x.f1, x.f2, x.f3)
  | 0, _, h => h.elim
  | d + 1, x, h => by
    obtain ⟨_, hl1, hl2, hl3, _, _, hk⟩ := h
    obtain ⟨K, hK⟩ := twin_loop d (twin_ev d) x hk hl3 x.f0 x.f1 x.f2 x.f3.length 0 (by omega)
    refine Ev.of (fun k => lathelaw14_twin.mono _ _ _ _ k) (k := K + 1) ?_
    have a := hK K (Nat.le_refl _)
    dsimp only at a
    rw [lathelaw14_twin.f, if_pos (by simp only [List.length_nil]; omega), if_pos (by simp only [List.length_nil]; omega)]
    exact a

end Go.Proofs.YtmfladkimmnccaaDoor.Sto
set_option linter.unusedVariables false
namespace Go.Proofs.YtmfladkimmnccaaDoor.Pure
open Go.RowKit Lathe Go.Proofs.YtmfladkimmnccaaDoorW.PrintWords Go.Proofs.YtmfladkimmnccaaDoorW.PrintMore Go.Proofs.YtmfladkimmnccaaDoor.PW Go.Proofs.YtmfladkimmnccaaDoor.Tre Go.Proofs.YtmfladkimmnccaaDoor.Sto
theorem values_law (d : Nat) (x : T) (h : Wf d x) (n : Int) : Sto.Ev (fun k => lathelaw14_SchedValues.f k x.f0 x.f1 x.f2 x.f3 n) true := by
  have hg := great_ev d x h
  obtain ⟨Kw, hw⟩ := works_ev
  obtain ⟨Kg, hg⟩ := hg
  by_cases c : 9000 < cnt d x
  · rw [decide_eq_true c] at hg
    refine ⟨max Kw Kg, fun k hk => ?_⟩
    have a := hg k (by omega)
    have b := hw k (by omega)
    dsimp only at a b ⊢
    rw [lathelaw14_SchedValues.f, a, Option.bind_some, if_pos rfl, b, Option.bind_some]
  · rw [decide_eq_false c] at hg
    obtain ⟨Kt, ht⟩ := twin_ev d x h
    obtain ⟨v, e, hv, ⟨K1, h1⟩, ⟨K2, h2⟩⟩ := values d x h (by omega) n
    obtain ⟨e', ⟨K3, h3⟩, ⟨K4, h4⟩, _⟩ := checks d x h (by omega)
    obtain ⟨K5, h5⟩ := same_ev d x h
    refine ⟨max (max (max Kw Kg) (max Kt K1)) (max (max K2 K3) (max K4 K5)), fun k hk => ?_⟩
    have a := hg k (by omega)
    have b := hw k (by omega)
    have at' := ht k (by omega)
    have a1 := h1 k (by omega)
    have a2 := h2 k (by omega)
    have a3 := h3 k (by omega)
    have a4 := h4 k (by omega)
    have a5 := h5 k (by omega)
    dsimp only at a b at' a1 a2 a3 a4 a5 ⊢
    rw [lathelaw14_SchedValues.f, a, Option.bind_some, if_neg (by decide), at', Option.bind_some]
    dsimp only
    rw [a1, Option.bind_some, a2, Option.bind_some]
    dsimp only
    rw [hv, if_pos rfl, if_pos rfl, a3, Option.bind_some, a4, Option.bind_some, if_pos rfl, a5, Option.bind_some, if_pos rfl, b, Option.bind_some]
theorem SchedValues (w : World) (hl : Wav.Lies w) (d : Nat) (x : T) (h : Wf d x) (n : Int) {A1 A2 A3 : Option Addr} {c1 c2 c3 : Nat} (hr1 : Kd.C (Kd.int .u32) w A1 x.f1.length x.f1) (hc1 : x.f1.length ≤ c1) (hr2 : Kd.C (Kd.int .i64) w A2 x.f2.length x.f2) (hc2 : x.f2.length ≤ c2) (hr3 : Kd.C k26 w A3 x.f3.length x.f3) (hc3 : x.f3.length ≤ c3) :
    Calls Tryd.prog 3 #[.agg #[.int .i64 x.f0, .slice A1 x.f1.length c1, .slice A2 x.f2.length c2, .slice A3 x.f3.length c3], .int .i64 n] w fun e w' => e = .returned (.bool true) ∧ Below w.heap.size w w' := by
  obtain ⟨K, hK⟩ := values_law d x h n
  exact lathelaw14_SchedValues.calls K x.f0 _ _ x.f1 _ _ x.f2 _ _ x.f3 n true w hl hr1 hc1 hr2 hc2 hr3 hc3 (hK K (Nat.le_refl _))
end Go.Proofs.YtmfladkimmnccaaDoor.Pure
