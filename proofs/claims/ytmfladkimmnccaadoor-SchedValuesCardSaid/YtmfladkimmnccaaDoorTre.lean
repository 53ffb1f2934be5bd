/- A schedule that came in, as a tree. Condition: what the row says of its memory. -/
import Derived.Test.YtmfladkimmnccaaDoorPWx0
import Derived.WalkKit
import Derived.ProofKit
import Derived.OpenShut
import Derived.ChangeSame
import Derived.Below
import Derived.Lib.SmallJoins
set_option linter.unusedVariables false
set_option linter.unusedSimpArgs false
namespace Go.Proofs.YtmfladkimmnccaaDoor.Tre
open Go.ChangeShapes Go.WideShapes Go.ChangeAt Go.RowKit Go.Joins Go.Deep
open Go.Proofs.YtmfladkimmnccaaDoorW.PrintWords Go.Proofs.YtmfladkimmnccaaDoor.PW

/-- A schedule of at most so great a depth, its lists short, its numbers numbers. -/
def Wf : Nat → S26 → Prop
  | 0, _ => False
  | d + 1, x => (Lit.int .i64 x.f0).wf = true ∧ x.f1.length ≤ 35184372087808 ∧ x.f2.length ≤ 17592186043904 ∧ x.f3.length ≤ 1759218604390 ∧ (∀ y ∈ x.f1, (Lit.int .u32 y).wf = true) ∧ (∀ y ∈ x.f2, (Lit.int .i64 y).wf = true) ∧ ∀ c ∈ x.f3, Wf d c
theorem Wf_more : ∀ {d : Nat} {x : S26}, Wf d x → Wf (d + 1) x
  | 0, _, h => h.elim
  | d + 1, x, ⟨h0, h1, h2, h3, h4, h5, h6⟩ => ⟨h0, h1, h2, h3, h4, h5, fun c hc => Wf_more (h6 c hc)⟩
theorem weight_slice {H : Type} {P : Program} {t e : TypeId} (ht : P.underlying t = some (.slice e)) (l r : List (DataW H)) : (l.length + r.length) * P.bytesOf e ∈ (DataW.slice l r).weights P t := by
  rw [DataW.weights, ht]
  exact List.mem_cons_self
theorem weights_all {H : Type} {P : Program} {e : TypeId} : ∀ {l : List (DataW H)} {z : DataW H}, z ∈ l → ∀ n ∈ z.weights P e, n ∈ DataW.weightsAll P e l
  | [], z, h, n, hn => absurd h (by simp)
  | y :: l, z, h, n, hn => by
    rw [DataW.weightsAll, List.mem_append]
    rcases List.mem_cons.1 h with e | e
    · subst e; exact Or.inl hn
    · exact Or.inr (weights_all e n hn)
theorem weight_elems {H : Type} {P : Program} {t e : TypeId} (ht : P.underlying t = some (.slice e)) {l r : List (DataW H)} {z : DataW H} (hz : z ∈ l) : ∀ n ∈ z.weights P e, n ∈ (DataW.slice l r).weights P t := by
  intro n hn
  rw [DataW.weights, ht]
  exact List.mem_cons_of_mem _ (List.mem_append_left _ (weights_all hz n hn))
theorem weight_parts {H : Type} (y0 y1 y2 y3 : DataW H) : (DataW.agg [y0, y1, y2, y3]).weights Tryd.prog 26 = y0.weights Tryd.prog 3 ++ (y1.weights Tryd.prog 22 ++ (y2.weights Tryd.prog 23 ++ (y3.weights Tryd.prog 24 ++ []))) := by
  rw [DataW.weights, Tryd.underlying26]
  rfl
theorem reach_eq : reachBytes = 140737488351232 := by decide
theorem ints_of {H : Type} {enc : TypeId × Value → H} {W : World} {n : Nat} {t e : TypeId} {kd : IntKind} {v : Value} {y : DataW H × List MemPlace} (ht : Tryd.prog.underlying t = some (.slice e)) (he : Tryd.prog.underlying e = some (.int kd)) (hc : Tryd.prog.cellsOf e = 1)
    (h : DataW.trod enc Tryd.prog W 0 (fun _ => true) true n t [v] = some y) : ∃ (A : Option Addr) (c : Nat) (l : List Int), v = .slice A l.length c ∧ l.length ≤ c ∧ (Kd.int kd).C W A l.length l ∧ (∀ z ∈ l, (Lit.int kd z).wf = true) ∧ ((∀ n ∈ y.1.weights Tryd.prog t, n ≤ reachBytes) → l.length * Tryd.prog.bytesOf e ≤ reachBytes) := by
  rcases open_ints ht he hc h with ⟨hcs, _⟩ | ⟨x, len, c, zs, hcs, _, hl, hm, hz, hd, hcell, hwz⟩
  · obtain rfl := (List.cons.inj hcs).1
    exact ⟨none, 0, [], rfl, Nat.le_refl _, ⟨rfl, Nat.zero_le _, fun h => absurd h (by simp)⟩, fun z hz => by simp at hz, fun _ => by simp⟩
  · obtain rfl := (List.cons.inj hcs).1
    have hz2 : zs.length = c := by simpa using hz
    have hlen : (zs.take len).length = len := by rw [List.length_take]; omega
    refine ⟨some x, c, zs.take len, by rw [hlen], by omega, ⟨rfl, by unfold maxLen at hm; omega, fun _ => ⟨x, rfl, fun j q hq => ⟨[.int kd q], rfl, rfl, fun i u hu => ?_⟩⟩⟩, fun z hz => hwz z (List.mem_of_mem_take hz), ?_⟩
    · have hi0 : i = 0 := by
        have := (List.getElem?_eq_some_iff.1 hu).1
        simp at this
        exact this
      subst hi0
      have hj : j < zs.length := by
        have := (List.getElem?_eq_some_iff.1 hq).1
        rw [hlen] at this
        omega
      have := hcell j hj
      rw [show (Kd.int kd).sz = 1 from rfl, Nat.mul_one, Nat.add_zero, this]
      simp at hu
      rw [← hu]
      refine congrArg (fun z => some (Value.int kd z)) ?_
      rw [List.getElem?_take] at hq
      split at hq
      · rw [List.getD_eq_getElem?_getD, hq]; rfl
      · cases hq
    · intro hw
      rw [hd] at hw
      have h1 := hw _ (weight_slice ht _ _)
      refine Nat.le_trans (Nat.mul_le_mul_right _ ?_) h1
      simp only [lits, List.length_map, List.length_take, List.length_drop]
      omega
theorem exists_list {β : Type} {Q : Nat → β → Prop} : ∀ n : Nat, (∀ i, i < n → ∃ x, Q i x) → ∃ l : List β, l.length = n ∧ ∀ i x, l[i]? = some x → Q i x
  | 0, _ => ⟨[], rfl, fun i x h => by simp at h⟩
  | n + 1, h => by
    obtain ⟨l, h1, h2⟩ := exists_list n (fun i hi => h i (by omega))
    obtain ⟨x, hx⟩ := h n (by omega)
    refine ⟨l ++ [x], by simp [h1], fun i y hy => ?_⟩
    by_cases c : i < n
    · rw [List.getElem?_append_left (by omega)] at hy
      exact h2 i y hy
    · have hi : i < (l ++ [x]).length := (List.getElem?_eq_some_iff.1 hy).1
      simp [h1] at hi
      obtain rfl : i = n := by omega
      rw [List.getElem?_append_right (by omega), h1, Nat.sub_self] at hy
      simp at hy
      subst hy
      exact hx
/-- The fields of a schedule in memory. -/
theorem fields {H : Type} {enc : TypeId × Value → H} {W : World} {m : Nat} {cs : List Value} {y : DataW H × List MemPlace} (h : DataW.trod enc Tryd.prog W 0 (fun _ => true) true m 26 cs = some y) :
    ∃ (v0 v1 v2 v3 : Value) (y0 y1 y2 y3 : DataW H × List MemPlace) (n : Nat), m = n + 1 ∧ cs = [v0, v1, v2, v3] ∧ y.1 = .agg [y0.1, y1.1, y2.1, y3.1] ∧ DataW.trod enc Tryd.prog W 0 (fun _ => true) true n 3 [v0] = some y0 ∧ DataW.trod enc Tryd.prog W 0 (fun _ => true) true n 22 [v1] = some y1 ∧ DataW.trod enc Tryd.prog W 0 (fun _ => true) true n 23 [v2] = some y2 ∧ DataW.trod enc Tryd.prog W 0 (fun _ => true) true n 24 [v3] = some y3 := by
  obtain ⟨xs, n, hn, hx, hcl, hlen, hg⟩ := DataW.trod_struct Tryd.underlying26 h
  have h4 : Tryd.prog.cellsOf 26 = 4 := by kernel_rfl
  rw [h4] at hcl
  match cs, hcl with
  | [c0, c1, c2, c3], _ =>
    match xs, hlen with
    | [y0, y1, y2, y3], _ =>
      have g0 := hg 0 _ rfl
      have g1 := hg 1 _ rfl
      have g2 := hg 2 _ rfl
      have g3 := hg 3 _ rfl
      exact ⟨c0, c1, c2, c3, y0, y1, y2, y3, n, hn, rfl, congrArg Prod.fst hx, g0, g1, g2, g3⟩
theorem tree {H : Type} {enc : TypeId × Value → H} {W : World} : ∀ (m : Nat) (cs : List Value) (y : DataW H × List MemPlace), DataW.trod enc Tryd.prog W 0 (fun _ => true) true m 26 cs = some y → (∀ n ∈ y.1.weights Tryd.prog 26, n ≤ reachBytes) → ∃ x : S26, k26.K W x cs ∧ Wf m x := by
  intro m
  induction m using Nat.strongRecOn with
  | _ m ih =>
  intro cs y h hb
  obtain ⟨v0, v1, v2, v3, y0, y1, y2, y3, n, rfl, rfl, hy, g0, g1, g2, g3⟩ := fields h
  rw [hy, weight_parts] at hb
  have hb1 : ∀ n ∈ y1.1.weights Tryd.prog 22, n ≤ reachBytes := fun n hn => hb n (by simp [hn])
  have hb2 : ∀ n ∈ y2.1.weights Tryd.prog 23, n ≤ reachBytes := fun n hn => hb n (by simp [hn])
  have hb3 : ∀ n ∈ y3.1.weights Tryd.prog 24, n ≤ reachBytes := fun n hn => hb n (by simp [hn])
  clear hb
  obtain ⟨b0, e0, _, w0⟩ := DataW.trod_int Tryd.underlying3 g0
  obtain rfl := (List.cons.inj e0).1
  obtain ⟨A1, c1, l1, rfl, hl1, hr1, hw1, hs1⟩ := ints_of Tryd.underlying22 Tryd.underlying31 (by kernel_rfl) g1
  obtain ⟨A2, c2, l2, rfl, hl2, hr2, hw2, hs2⟩ := ints_of Tryd.underlying23 Tryd.underlying3 (by kernel_rfl) g2
  have kids : ∃ (A3 : Option Addr) (c3 : Nat) (l3 : List S26), v3 = .slice A3 l3.length c3 ∧ l3.length ≤ c3 ∧ k26.C W A3 l3.length l3 ∧ l3.length ≤ 1759218604390 ∧ ∀ c ∈ l3, Wf n c := by
    rcases DataW.trod_slice Tryd.underlying24 g3 with ⟨hcs, _⟩ | ⟨a, len, cap, elems, rest, n', hn', hcs, hx, hb0, hl, hm, hel, hcell, _, _⟩
    · obtain rfl := (List.cons.inj hcs).1
      exact ⟨none, 0, [], rfl, Nat.le_refl _, ⟨rfl, Nat.zero_le _, fun h => absurd h (by simp)⟩, by simp, fun c hc => by simp at hc⟩
    · obtain rfl := (List.cons.inj hcs).1
      have h4 : Tryd.prog.cellsOf 26 = 4 := by kernel_rfl
      rw [h4] at hcell
      have hd := congrArg Prod.fst hx
      simp only at hd
      rw [hd] at hb3
      have s1 := hb3 _ (weight_slice Tryd.underlying24 _ _)
      rw [show Tryd.prog.bytesOf 26 = 80 by kernel_rfl, reach_eq, List.length_map, hel] at s1
      have each : ∀ i, i < len → ∃ x : S26, (∃ cs', k26.K W x cs' ∧ cs'.length = 4 ∧ ∀ j, j < 4 → W.cell? (a.add (i * 4 + j)) = cs'[j]?) ∧ Wf n x := by
        intro i hi
        have hi2 := hcell i hi
        obtain ⟨z, hz⟩ : ∃ z, elems[i]? = some z := ⟨_, List.getElem?_eq_getElem (by omega)⟩
        rw [hz, Option.bind_eq_some_iff] at hi2
        obtain ⟨cs', hc, hz'⟩ := hi2
        obtain ⟨_, hcl, hat⟩ := World.cells?_some hc
        have hz1 : z.1 ∈ elems.map (·.1) := List.mem_map_of_mem (List.mem_of_getElem? hz)
        have hbk : ∀ n ∈ z.1.weights Tryd.prog 26, n ≤ reachBytes := by
          intro n hn
          refine hb3 n ?_
          exact weight_elems (e := 26) Tryd.underlying24 hz1 n hn
        obtain ⟨x, hk, hw⟩ := ih n' (by omega) cs' z hz' hbk
        refine ⟨x, ⟨cs', hk, hcl, fun j hj => ?_⟩, ?_⟩
        · rw [← Go.Deep.add_add]
          exact hat j hj
        · subst hn'
          exact Wf_more hw
      obtain ⟨ls, e1, e2⟩ := exists_list len each
      refine ⟨some a, cap, ls, by rw [e1], by omega, ⟨rfl, by unfold maxLen at hm; omega, fun _ => ⟨a, rfl, fun j q hq => ?_⟩⟩, ?_, fun c hc => ?_⟩
      · obtain ⟨⟨cs', hk, hcl, hat⟩, _⟩ := e2 j q hq
        refine ⟨cs', hcl, hk, fun i u hu => ?_⟩
        have hi4 : i < 4 := by have := (List.getElem?_eq_some_iff.1 hu).1; omega
        rw [show k26.sz = 4 from rfl, hat i hi4]
        exact hu
      · omega
      · obtain ⟨i, hi⟩ := List.getElem?_of_mem hc
        exact (e2 i c hi).2
  obtain ⟨A3, c3, l3, rfl, hl3, hr3, hs3, hw3⟩ := kids
  refine ⟨⟨b0, l1, l2, l3⟩, k26_mk W ⟨b0, l1, l2, l3⟩ hl1 hr1 hl2 hr2 hl3 hr3, w0, ?_, ?_, hs3, hw1, hw2, hw3⟩
  · show l1.length ≤ 35184372087808
    have := hs1 hb1
    rw [show Tryd.prog.bytesOf 31 = 4 by kernel_rfl, reach_eq] at this
    omega
  · show l2.length ≤ 17592186043904
    have := hs2 hb2
    rw [show Tryd.prog.bytesOf 3 = 8 by kernel_rfl, reach_eq] at this
    omega
end Go.Proofs.YtmfladkimmnccaaDoor.Tre
