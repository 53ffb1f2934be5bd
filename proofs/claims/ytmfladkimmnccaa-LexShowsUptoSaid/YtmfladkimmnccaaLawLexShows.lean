/- The statement LexShows holds where what it reads is of bulk at most 1048576, out of its pure form and the walk. No condition. -/
import Derived.Test.YtmfladkimmnccaaPLx15
import Derived.Test.YtmfladkimmnccaaRows
import Derived.Test.YtmfladkimmnccaaPureLexShows
import Derived.WalkKit
import Derived.ProofKit
import Derived.OpenShut
import Derived.ChangeOld
import Derived.Below
import Derived.SizedLaws
import Derived.ChangeSame
import Derived.Deep.Slices
import Derived.Deep.Fields
import Derived.Deep.CondSized
import Derived.JoinedCond
import Derived.Test.YtmfladkimmnccaaBulk
namespace Go.Proofs.Ytmfladkimmnccaa.lexShows
open Go.ChangeShapes Go.WideShapes Go.ChangeAt Go.RowKit Go.Deep
set_option linter.unusedVariables false
theorem own : ownKnob Try.prog.godebug = none := by kernel_rfl
theorem laidOut : laidOutB Try.prog = true := by kernel_rfl
section
variable {H : Type} {enc : TypeId × Value → H} {P : Program} {w : World} {base : Nat} {spare : Nat → Bool} {held : Bool}
theorem open_slice_fields {t e : TypeId} {fs : Array Field} {fuel : Nat} {cs : List Value} {x : DataW H × List MemPlace} (ht : P.underlying t = some (.slice e)) (he : P.underlying e = some (.struct fs))
    (hone : oneCellFields P fs = true) (hC : P.cellsOf e = fs.size) (h : DataW.trod enc P w base spare held fuel t cs = some x) :
    (cs = [.slice none 0 0] ∧ x = (.nil, [])) ∨
    ∃ (a : Addr) (len cap m : Nat) (D : Nat → DataW H) (Pl : Nat → List MemPlace), cs = [.slice (some a) len cap] ∧ base ≤ a.block ∧ len ≤ cap ∧ cap ≤ maxLen ∧ m = (if spare a.block then cap else len) ∧
      x = (.slice ((List.range len).map D) ((List.range (m - len)).map fun j => D (len + j)), MemPlace.row a (m * fs.size) ++ (List.range m).flatMap Pl) ∧
      ∀ i, i < m → ∃ (ys : List (DataW H × List MemPlace)) (n : Nat), D i = .agg (ys.map (·.1)) ∧ Pl i = ys.flatMap (·.2) ∧ ys.length = fs.size ∧
        ∀ (j : Nat) (f : Field), fs[j]? = some f → ∃ (v : Value) (y : DataW H × List MemPlace), w.cell? (a.add (i * fs.size + j)) = some v ∧ ys[j]? = some y ∧ DataW.trod enc P w base spare held n f.type [v] = some y := by
  rcases open_slice ht h with h0 | ⟨a, len, cap, m, n, D, Pl, hcs, hb, hl, hm, hmm, hx, hi⟩
  · exact .inl h0
  · refine .inr ⟨a, len, cap, m, D, Pl, hcs, hb, hl, hm, hmm, by rw [hC] at hx; exact hx, fun i him => ?_⟩
    obtain ⟨cs', hc, ht'⟩ := hi i him
    rw [hC] at hc
    obtain ⟨ys, n', hn', hy, hlen, hyl, hf⟩ := DataW.trod_struct he ht'
    obtain ⟨_, hcl, hat⟩ := World.cells?_some hc
    simp only [Prod.mk.injEq] at hy
    refine ⟨ys, n', hy.1, hy.2, hyl, fun j f hj => ?_⟩
    obtain ⟨ho, hk⟩ := hone_of hone j f hj
    have hjl : j < fs.size := (Array.getElem?_eq_some_iff.1 hj).1
    have hcell := hat j hjl
    have hv : cs'[j]? = some (cs'[j]'(by omega)) := List.getElem?_eq_getElem (by omega)
    have h1 := hf j f hj
    rw [ho, hk] at h1
    have hone' : (cs'.drop j).take 1 = [cs'[j]'(by omega)] := by
      rw [List.drop_eq_getElem_cons (by omega)]
      rfl
    rw [hone'] at h1
    have hys : ys[j]? = some (ys[j]'(by omega)) := List.getElem?_eq_getElem (by omega)
    refine ⟨_, _, ?_, hys, h1.trans hys⟩
    rw [← Go.Deep.add_add, hcell, hv]
end
open Go.Proofs.YtmfladkimmnccaaW.PrintWords Go.Proofs.Ytmfladkimmnccaa.PL
/-- The list of tokens that came in. -/
theorem opened {H : Type} {enc : TypeId × Value → H} {W : World} {A : Option Addr} {len cap fuel : Nat} {x : DataW H × List MemPlace}
    (h : DataW.trod enc Try.prog W 0 (fun _ => true) true fuel 22 [.slice A len cap] = some x) (hx : Rows.uptoBulk x.1 ≤ 1048576) :
    ∃ l : List S32, l.length = len ∧ len ≤ cap ∧ len ≤ 1048576 ∧ Kd.C k32 W A l.length l ∧ ∀ i : Nat, i < l.length → (rd_T32 l (i : Int)).f1.size ≤ 1048576 := by
  rcases open_slice_fields Try.underlying22 Try.underlying32 (by kernel_rfl) (by kernel_rfl) h with ⟨hcs, _⟩ | ⟨a, len', cap', m, D, Pl, hcs, hb, hl, hm, hmm, hd, hi⟩
  · have e := (List.cons.inj hcs).1
    obtain ⟨rfl, rfl, rfl⟩ : A = none ∧ len = 0 ∧ cap = 0 := by simpa using e
    exact ⟨[], rfl, Nat.le_refl _, Nat.zero_le _, ⟨rfl, Nat.zero_le _, fun h => absurd h (by simp)⟩, fun i h => absurd h (by simp)⟩
  · have e := (List.cons.inj hcs).1
    obtain ⟨rfl, rfl, rfl⟩ : A = some a ∧ len = len' ∧ cap = cap' := by simpa using e
    have hm' : m = cap := by simpa using hmm
    subst hm'
    have hd1 : x.1 = .slice ((List.range len).map D) ((List.range (m - len)).map fun j => D (len + j)) := congrArg Prod.fst hd
    have hlen : len ≤ 1048576 := by
      have := bulks.slice_le ((List.range len).map D) ((List.range (m - len)).map fun j => D (len + j))
      rw [← hd1] at this
      simp only [List.length_map, List.length_range] at this
      omega
    have each : ∀ i : Nat, ∃ t : S32, i < len → W.cell? (a.add (i * 3 + 0)) = some (.int .i64 t.f0) ∧ W.cell? (a.add (i * 3 + 1)) = some (.string t.f1) ∧ W.cell? (a.add (i * 3 + 2)) = some (.int .i64 t.f2) ∧ t.f1.size ≤ 1048576 := by
      intro i
      by_cases hlt : i < len
      · obtain ⟨ys, n, hD, _, hyl, hf⟩ := hi i (by omega)
        obtain ⟨v0, y0, c0, e0, t0⟩ := hf 0 _ rfl
        obtain ⟨v1, y1, c1, e1, t1⟩ := hf 1 _ rfl
        obtain ⟨v2, y2, c2, e2, t2⟩ := hf 2 _ rfl
        obtain ⟨n0, q0, r0, _⟩ := DataW.trod_int Try.underlying3 t0
        obtain ⟨s1, q1, r1, _⟩ := DataW.trod_string Try.underlying9 t1
        obtain ⟨n2, q2, r2, _⟩ := DataW.trod_int Try.underlying3 t2
        obtain rfl := (List.cons.inj q0).1
        obtain rfl := (List.cons.inj q1).1
        obtain rfl := (List.cons.inj q2).1
        refine ⟨⟨n0, s1, n2⟩, fun _ => ⟨c0, c1, c2, ?_⟩⟩
        have m1 : y1.1 ∈ ys.map (·.1) := List.mem_map_of_mem (List.mem_of_getElem? e1)
        have b1 := bulks.part_le m1
        rw [r1, bulks.string_eq] at b1
        have b2 : Rows.uptoBulkAll (ys.map (·.1)) + 1 = Rows.uptoBulk (D i) := by rw [hD]; simp only [Rows.uptoBulk]
        have m3 : D i ∈ (List.range len).map D := List.mem_map_of_mem (List.mem_range.mpr hlt)
        have b3 := bulks.part_le m3
        have b4 := bulks.slice_elems ((List.range len).map D) ((List.range (m - len)).map fun j => D (len + j))
        rw [← hd1] at b4
        rw [Array.length_toList] at b1
        show s1.data.size ≤ 1048576
        omega
      · exact ⟨⟨0, ByteArray.empty, 0⟩, fun h => absurd h hlt⟩
    obtain ⟨f, hf⟩ := Classical.axiomOfChoice each
    have hat : ∀ j p, ((List.range len).map f)[j]? = some p → j < len ∧ f j = p := by
      intro j p hj
      rw [List.getElem?_map] at hj
      by_cases hlt : j < len
      · rw [List.getElem?_range hlt] at hj
        exact ⟨hlt, Option.some.inj hj⟩
      · rw [List.getElem?_eq_none (by simpa using hlt)] at hj
        exact absurd hj (by simp)
    refine ⟨(List.range len).map f, by simp, hl, hlen, ⟨rfl, by rw [List.length_map, List.length_range]; omega, fun _ => ⟨a, rfl, fun j p hj => ?_⟩⟩, fun i h => ?_⟩
    · obtain ⟨hlt, rfl⟩ := hat j p hj
      obtain ⟨c0, c1, c2, _⟩ := hf j hlt
      refine ⟨[.int .i64 (f j).f0, .string (f j).f1, .int .i64 (f j).f2], rfl, ⟨[_], [_, _], rfl, rfl, [_], [_], rfl, rfl, rfl⟩, fun i u hu => ?_⟩
      match i, hu with
      | 0, hu => obtain rfl := Option.some.inj hu; exact c0
      | 1, hu => obtain rfl := Option.some.inj hu; exact c1
      | 2, hu => obtain rfl := Option.some.inj hu; exact c2
      | i + 3, hu => exact absurd hu (by simp)
    · have hi' : i < len := by simpa using h
      have : rd_T32 ((List.range len).map f) (i : Int) = f i := by
        unfold rd_T32
        rw [Int.toNat_natCast]
        simp [List.getD_eq_getElem?_getD, hi']
      rw [this]
      exact (hf i hi').2.2.2
set_option maxRecDepth 100000 in
theorem lifted (os : Os) (started : os.Started) (H : Type) (enc : TypeId × Value → H) (F : Stop.Interp) :
    ReturnsInHanded {} Try.checked os 7 .any ((Rows.OpenSpec.upto Rows.lexShowsSpec).pre6 enc Try.prog Try.f7 Rows.lexShowsUptoRow.domain false) (((Rows.OpenSpec.upto Rows.lexShowsSpec).at F).post enc Try.prog Try.f7 false true false false) := by
  refine returnsInHanded_of_cond_sized (C := Try.checked) (s := Rows.OpenSpec.upto Rows.lexShowsSpec) (k := Rows.uptoSmall) rfl own started (by kernel_rfl) Try.func7
    (OpenSpec.witness (enc := enc) (C := Try.checked) (s := Rows.OpenSpec.upto Rows.lexShowsSpec) (k := Rows.uptoSmall) rfl false ⟨#[], #[.slice none 0 0], []⟩ 8 (by kernel_rfl) (by kernel_rfl) (by kernel_rfl)
      (x := ([.nil], [], [])) (by kernel_rfl) rfl (by kernel_rfl)) ?_
  intro W base args ds gs before hval0 hW hcnd hk hsz0 _
  have hval : ∀ (j : Nat) t v, Try.f7.params[j]? = some t → args[j]? = some v → Value.okWide Try.prog W .any base t v := hval0
  have hW' := hW
  obtain ⟨p, q, hA0, hV, rfl, hfz, hnd⟩ := hW
  have hA : DataW.TrodAll enc Try.prog W 0 (fun _ => true) true Try.f7.params.toList args.toList ds p := hA0
  rw [Try.params7] at hA hval
  obtain ⟨v0, vs0, d0, ds0, p0, q0, hargs, rfl, rfl, h0, r0⟩ := trodAll_cons hA
  obtain ⟨rfl, rfl, rfl⟩ := trodAll_nil r0
  obtain rfl : args = #[v0] := by cases args; simp_all
  obtain ⟨rfl, rfl⟩ := trodVars_none hV
  obtain ⟨a0, len0, cap0, rfl⟩ := okWide_slice Try.underlying22 (hval 0 22 v0 rfl rfl)
  have k0 := h0
  have lt0 : ∀ x ∈ p0, x.block < W.heap.size := by obtain ⟨m, hm⟩ := k0; exact DataW.trod_lt m _ _ _ hm
  have hb0 : Rows.uptoBulk d0 ≤ 1048576 := by
    have q := bulks.bound hk
    simp only [List.cons_append, List.nil_append, Rows.uptoBulkAll] at q
    omega
  obtain ⟨fuel, hf⟩ := h0
  obtain ⟨l, hl, hc, hlen, hC, hs⟩ := opened (x := (d0, p0)) (by simpa [Value.cells] using hf) hb0
  subst hl
  obtain ⟨k, h⟩ := Pure.LexShows l hlen hs
  clear hA0 hval0 hsz0
  refine (PL.lathelaw06_LexShows.calls k a0 cap0 l true W hC hc h).mono fun e W' ⟨he, bel⟩ => ?_
  subst he
  exact ⟨_, rfl, _, _, _, [], _, [], hW', trodAll_mk1 (shut_bool Try.underlying4 _), (trodAll_cons_mk (Below.trod laidOut (by kernel_rfl) (of_decide_eq_true (by kernel_rfl)) k0 bel lt0) trodAll_mk0), rfl, bel.frame _, fun h => by cases h⟩
theorem over : Rows.lexShowsUptoRow.holds Try.pinned (Rows.OpenSpec.upto Rows.lexShowsSpec) :=
  OpenClaim.holds_of_cond 7 Try.f7 rfl rfl rfl rfl rfl rfl rfl ⟨rfl, rfl, rfl, rfl, rfl⟩ rfl rfl rfl rfl rfl (by kernel_rfl) Try.func7 (by kernel_rfl)
    (of_decide_eq_true (by kernel_rfl)) (by unfold Func.isWrapper; first | (rw [if_pos (by decide +kernel)]; kernel_rfl) | (rw [if_neg (by decide +kernel)]; exact ⟨rfl, rfl⟩))
    (fun os started H enc _ F => lifted os started H enc F)
theorem proved : Rows.LexShowsUptoSaid := over
#print axioms proved
end Go.Proofs.Ytmfladkimmnccaa.lexShows
namespace Go.Proofs.Ytmfladkimmnccaa
/-- The row, under a short name, for the claim. -/
theorem lexShowsUpto_holds : Rows.LexShowsUptoSaid := lexShows.proved
end Go.Proofs.Ytmfladkimmnccaa
