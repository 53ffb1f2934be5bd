/- The statement VectorApplies holds, out of its pure form and the walk. No condition. -/
import Derived.Test.YtmfladkimmnccaaRows
import Derived.Test.YtmfladkimmnccaaPGx14
import Derived.Test.YtmfladkimmnccaaPureVectorApplies
import Derived.WalkKit
import Derived.ProofKit
import Derived.OpenShut
import Derived.ShutString
import Derived.ChangeOld
import Derived.Below
import Derived.SizedLaws
import Derived.Test.YtmfladkimmnccaaWal
import Derived.Deep.CondSized
import Derived.JoinedCond
import Derived.Test.YtmfladkimmnccaaBulk
namespace Go.Proofs.Ytmfladkimmnccaa.vectorApplies
open Go.ChangeShapes Go.WideShapes Go.ChangeAt Go.RowKit
open Go.ChangeMaps (open_string shut_string)
set_option linter.unusedVariables false
theorem own : ownKnob Try.prog.godebug = none := by kernel_rfl
theorem laidOut : laidOutB Try.prog = true := by kernel_rfl
def IsRow (k : IntKind) (w : World) (a : Option Addr) (len cap : Nat) (zs : List Int) : Prop :=
  (a = none ∧ len = 0 ∧ cap = 0 ∧ zs = []) ∨
  ∃ x, a = some x ∧ len ≤ cap ∧ cap ≤ maxLen ∧ zs.length = cap ∧ (∀ i, i < zs.length → w.cell? (x.add i) = some (.int k (zs.getD i 0))) ∧ ∀ n ∈ zs, (Lit.int k n).wf = true
theorem exists_list {Q : Nat → List Int → Prop} : ∀ n : Nat, (∀ i, i < n → ∃ x, Q i x) → ∃ l : List (List Int), l.length = n ∧ ∀ i x, l[i]? = some x → Q i x
  | 0, _ => ⟨[], rfl, fun i x h => by simp at h⟩
  | n + 1, h => by
    obtain ⟨l, h1, h2⟩ := exists_list n (fun i hi => h i (by omega))
    obtain ⟨x, hx⟩ := h n (by omega)
    refine ⟨l ++ [x], by simp [h1], fun i y hy => ?_⟩
    by_cases c : i < n
    · rw [List.getElem?_append_left (by omega)] at hy
      exact h2 i y hy
    · have hi : i < (l ++ [x]).length := (List.getElem?_eq_some_iff.1 hy).1
      simp [h1] at hi
      obtain rfl : i = n := by omega
      rw [List.getElem?_append_right (by omega), h1, Nat.sub_self] at hy
      simp at hy
      subst hy
      exact hx
open Go.Proofs.YtmfladkimmnccaaW.PrintWords in
theorem open_rows {H : Type} {enc : TypeId × Value → H} {W : World} {A : Option Addr} {len cap : Nat} {d : DataW H} {p : List MemPlace} (h0 : DataW.Trod enc Try.prog W 0 (fun _ => true) true 38 (.slice A len cap) d p) (hb : Rows.uptoBulk d ≤ 1048576) :
    ∃ l : List (List Int), l.length = len ∧ Kd.C (Kd.slice 52 (Kd.int .u32)) W A len l ∧ len ≤ cap ∧ len ≤ 1048576 ∧ (∀ x ∈ l, x.length ≤ 1048576) ∧ ∀ x ∈ l, ∀ y ∈ x, (Lit.int .u32 y).wf = true := by
  obtain ⟨fuel, hf⟩ := h0
  rcases DataW.trod_slice Try.underlying38 hf with ⟨hcs, hx⟩ | ⟨a, l, c, elems, rest, n, _, hcs, hx, hb0, hl, hm, hel, hcell, _, _⟩
  · simp [Value.cells] at hcs
    obtain ⟨rfl, rfl, rfl⟩ := hcs
    exact ⟨[], rfl, ⟨rfl, by omega, fun h => absurd h (by omega)⟩, Nat.le_refl _, Nat.zero_le _, fun x h => by simp at h, fun x h => by simp at h⟩
  · simp [Value.cells] at hcs
    obtain ⟨rfl, rfl, rfl⟩ := hcs
    have hd1 := congrArg Prod.fst hx
    simp only at hd1
    rw [hd1] at hb
    have s1 := bulks.slice_le (elems.map (·.1)) (rest.map (·.1))
    have s2 := bulks.slice_elems (elems.map (·.1)) (rest.map (·.1))
    rw [List.length_map, hel] at s1
    have c40 : Try.prog.cellsOf 40 = 1 := by kernel_rfl
    rw [c40] at hcell
    have each : ∀ i, i < len → ∃ x : List Int, (∃ B e, W.cell? (a.add i) = some (.slice B x.length e) ∧ x.length ≤ e ∧ (Kd.int .u32).C W B x.length x) ∧ x.length ≤ 1048576 ∧ ∀ y ∈ x, (Lit.int .u32 y).wf = true := by
      intro i hi
      have hi2 := hcell i hi
      obtain ⟨y, hy⟩ : ∃ y, elems[i]? = some y := ⟨_, List.getElem?_eq_getElem (by omega)⟩
      rw [hy, Nat.mul_one, Option.bind_eq_some_iff] at hi2
      obtain ⟨cs', hcs, hy'⟩ := hi2
      have hbk : Rows.uptoBulk y.1 ≤ 1048576 := by
        have := bulks.part_le (List.mem_map_of_mem (f := (·.1)) (List.mem_of_getElem? hy))
        omega
      rcases open_ints Try.underlying40 Try.underlying52 (by kernel_rfl) hy' with ⟨rfl, _⟩ | ⟨b, l2, c2, zs, rfl, _, hl2, hm2, hz, hyd, hcell2, hwz⟩
      · exact ⟨[], ⟨none, 0, cell_of_cells?_one hcs, Nat.le_refl _, ⟨rfl, by simp, fun h => absurd h (by simp)⟩⟩, by simp, fun y h => by simp at h⟩
      · have hz2 : zs.length = c2 := by simpa using hz
        have hy1 := congrArg Prod.fst hyd
        simp only at hy1
        rw [hy1] at hbk
        have s3 := bulks.slice_le (H := H) (lits .u32 (zs.take l2)) (lits .u32 (zs.drop l2))
        simp only [lits, List.length_map, List.length_take, List.length_drop] at s3 hbk
        have hlen : (zs.take l2).length = l2 := by rw [List.length_take]; omega
        refine ⟨zs.take l2, ⟨some b, c2, by rw [hlen]; exact cell_of_cells?_one hcs, by omega, ?_⟩, by omega, fun y hy => hwz y (List.mem_of_mem_take hy)⟩
        refine ⟨rfl, by unfold maxLen at hm2; omega, fun _ => ⟨b, rfl, fun j q hq => ⟨[.int .u32 q], rfl, rfl, fun i u hu => ?_⟩⟩⟩
        have hi0 : i = 0 := by
          have := (List.getElem?_eq_some_iff.1 hu).1
          simp at this
          exact this
        subst hi0
        have hj : j < zs.length := by
          have := (List.getElem?_eq_some_iff.1 hq).1
          rw [hlen] at this
          omega
        have := hcell2 j hj
        rw [show (Kd.int .u32).sz = 1 from rfl, Nat.mul_one, Nat.add_zero, this]
        simp at hu
        rw [← hu]
        refine congrArg (fun z => some (Value.int .u32 z)) ?_
        rw [List.getElem?_take] at hq
        split at hq
        · rw [List.getD_eq_getElem?_getD, hq]; rfl
        · cases hq
    obtain ⟨ls, e1, e2⟩ := exists_list len each
    refine ⟨ls, e1, ⟨e1, by unfold maxLen at hm; omega, fun _ => ⟨a, rfl, fun j q hq => ?_⟩⟩, hl, by omega, fun x hx => ?_, fun x hx => ?_⟩
    · obtain ⟨⟨B, e, f1, f2, f3⟩, _, _⟩ := e2 j q hq
      refine ⟨[.slice B q.length e], rfl, ⟨B, e, rfl, f2, f3⟩, fun i u hu => ?_⟩
      have hi0 : i = 0 := by
        have := (List.getElem?_eq_some_iff.1 hu).1
        simp at this
        exact this
      subst hi0
      rw [show (Kd.slice 52 (Kd.int .u32)).sz = 1 from rfl, Nat.mul_one, Nat.add_zero, f1]
      simpa using hu
    · obtain ⟨i, hi⟩ := List.getElem?_of_mem hx
      exact (e2 i x hi).2.1
    · obtain ⟨i, hi⟩ := List.getElem?_of_mem hx
      exact (e2 i x hi).2.2
set_option maxRecDepth 100000 in
theorem lifted (os : Os) (started : os.Started) (H : Type) (enc : TypeId × Value → H) (F : Stop.Interp) :
    ReturnsInHanded {} Try.checked os 9 .any ((Rows.OpenSpec.upto Rows.vectorAppliesSpec).pre6 enc Try.prog Try.f9 Rows.vectorAppliesUptoRow.domain false) (((Rows.OpenSpec.upto Rows.vectorAppliesSpec).at F).post enc Try.prog Try.f9 false true false false) := by
  refine returnsInHanded_of_cond_sized (C := Try.checked) (s := Rows.OpenSpec.upto Rows.vectorAppliesSpec) (k := Rows.uptoSmall) rfl own started (by kernel_rfl) Try.func9
    (OpenSpec.witness (enc := enc) (C := Try.checked) (s := Rows.OpenSpec.upto Rows.vectorAppliesSpec) (k := Rows.uptoSmall) rfl false ⟨#[], #[.int .i64 0, .slice none 0 0], []⟩ 8 (by kernel_rfl) (by kernel_rfl) (by kernel_rfl)
      (x := ([.lit (.int .i64 0), .nil], [], [])) (by kernel_rfl) rfl (by kernel_rfl)) ?_
  intro W base args ds gs before hval0 hW hcnd hk hsz0 _
  have hval : ∀ (j : Nat) t v, Try.f9.params[j]? = some t → args[j]? = some v → Value.okWide Try.prog W .any base t v := hval0
  have hW' := hW
  obtain ⟨p, q, hA0, hV, rfl, hfz, hnd⟩ := hW
  have hA : DataW.TrodAll enc Try.prog W 0 (fun _ => true) true Try.f9.params.toList args.toList ds p := hA0
  rw [Try.params9] at hA hval
  obtain ⟨v0, vs0, d0, ds0, p0, q0, hargs, rfl, rfl, h0, r0⟩ := trodAll_cons hA
  obtain ⟨v1, vs1, d1, ds1, p1, q1, rfl, rfl, rfl, h1, r1⟩ := trodAll_cons r0
  obtain ⟨rfl, rfl, rfl⟩ := trodAll_nil r1
  obtain rfl : args = #[v0, v1] := by cases args; simp_all
  obtain ⟨rfl, rfl⟩ := trodVars_none hV
  obtain ⟨a0, rfl, rfl, rfl, w0⟩ := open_int Try.underlying3 (hval 0 3 v0 rfl rfl) h0
  obtain ⟨a1, len1, cap1, rfl⟩ := okWide_slice Try.underlying38 (hval 1 38 v1 rfl rfl)
  have k1 := h1
  have lt1 : ∀ x ∈ p1, x.block < W.heap.size := by obtain ⟨m, hm⟩ := k1; exact DataW.trod_lt m _ _ _ hm
  have hb1 : Rows.uptoBulk d1 ≤ 1048576 := by
    have q := bulks.bound hk
    simp only [List.cons_append, List.nil_append, Rows.uptoBulkAll] at q
    omega
  obtain ⟨l1, e1, e2, e3, e4, e5, e6⟩ := open_rows h1 hb1
  clear hA0 hval0 hsz0
  obtain ⟨k, h⟩ := Pure.VectorApplies a0 l1 (by omega) e5 e6
  subst e1
  refine (PG.lathelaw05_VectorApplies.calls k a0 a1 cap1 l1 true W e2 e3 h).mono fun e W' ⟨he, bel⟩ => ?_
  subst he
  exact ⟨_, rfl, _, _, _, [], _, [], hW', trodAll_mk1 (shut_bool Try.underlying4 _), (trodAll_cons_mk (shut_int Try.underlying3 w0) (trodAll_cons_mk (Below.trod laidOut (by kernel_rfl) (of_decide_eq_true (by kernel_rfl)) k1 bel lt1) trodAll_mk0)), rfl, bel.frame _, fun h => by cases h⟩
theorem over : Rows.vectorAppliesUptoRow.holds Try.pinned (Rows.OpenSpec.upto Rows.vectorAppliesSpec) :=
  OpenClaim.holds_of_cond 9 Try.f9 rfl rfl rfl rfl rfl rfl rfl ⟨rfl, rfl, rfl, rfl, rfl⟩ rfl rfl rfl rfl rfl (by kernel_rfl) Try.func9 (by kernel_rfl)
    (of_decide_eq_true (by kernel_rfl)) (by unfold Func.isWrapper; first | (rw [if_pos (by decide +kernel)]; kernel_rfl) | (rw [if_neg (by decide +kernel)]; exact ⟨rfl, rfl⟩))
    (fun os started H enc _ F => lifted os started H enc F)
theorem proved : Rows.VectorAppliesUptoSaid := over
#print axioms proved
end Go.Proofs.Ytmfladkimmnccaa.vectorApplies
namespace Go.Proofs.Ytmfladkimmnccaa
/-- The row, under a short name, for the claim. -/
theorem vectorAppliesUpto_holds : Rows.VectorAppliesUptoSaid := vectorApplies.proved
end Go.Proofs.Ytmfladkimmnccaa
