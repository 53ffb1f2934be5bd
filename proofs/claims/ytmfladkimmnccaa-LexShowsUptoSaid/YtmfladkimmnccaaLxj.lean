/- Rows of tokens under another name; strings.Join on a row that is read. Condition of Join: the whole text has at most 140737488355328 bytes. -/
import Derived.Test.YtmfladkimmnccaaLxc
import Derived.Test.YtmfladkimmnccaaShelf
set_option linter.unusedVariables false
set_option linter.unusedSimpArgs false
namespace Go.Proofs.Ytmfladkimmnccaa.Lx
open Go.RowKit Go.Proofs.YtmfladkimmnccaaW.PrintWords Go.Proofs.YtmfladkimmnccaaW.PrintMore

theorem sz34 : (⟨#[34]⟩ : ByteArray).size = 1 := rfl
theorem sz32 : (⟨#[32]⟩ : ByteArray).size = 1 := rfl
theorem beq_nil8 (l : List UInt8) : (l == ([] : List UInt8)) = l.isEmpty := by cases l <;> rfl
theorem R_iso {α β : Type} (d : Kd α) (f : β → α) (g : α → β) (hfg : ∀ a, f (g a) = a) {e : Nat} {w : World} {base : Nat} {ok : Nat → Prop} {v : Value} {xs : List α} (h : d.R e w base ok v xs) : (Kd.iso d f).R e w base ok v (xs.map g) := by
  obtain ⟨h0, inner, ho, hr⟩ := h
  refine ⟨h0, inner, by rw [List.length_map]; exact ho, by rw [List.length_map]; exact hr.1, fun j p hj => ?_⟩
  rw [List.getElem?_map] at hj
  obtain ⟨a, ha, rfl⟩ := Option.map_eq_some_iff.mp hj
  have := hr.2 j a ha
  show d.M _ _ _ (f (g a)) _
  rw [hfg]
  exact this
theorem join (A0 : Option Addr) (c0 : Nat) (l0 : List ByteArray) (a1 : ByteArray) (w : World) (hr : Kd.C Kd.string w A0 l0.length l0) (hc : l0.length ≤ c0) (h1 : l0.length ≤ 140737488355328) (h2 : (Lib.join (l0.map (·.data.toList)) a1.data.toList).length ≤ 140737488355328) :
    Calls Try.prog 65 #[.slice A0 l0.length c0, .string a1] w fun e w' => e = .returned (.string ⟨(Lib.join (l0.map (·.data.toList)) a1.data.toList).toArray⟩) ∧ Below w.heap.size w w' := by
  cases l0 with
  | nil =>
    refine (Try.strings_Join_none A0 c0 a1 w).mono ?_
    rintro e w' ⟨rfl, rfl⟩
    exact ⟨rfl, Below.refl _ _⟩
  | cons x xs =>
    obtain ⟨-, -, hr⟩ := hr
    obtain ⟨ad, rfl, hcell⟩ := hr (by simp)
    have key : ∀ (j : Nat) y, (x :: xs)[j]? = some y → w.cell? (ad.add j) = some (.string y) := by
      intro j y hy
      obtain ⟨c, hl, hk, hu⟩ := hcell j y hy
      have hk' : c = [.string y] := hk
      subst hk'
      have := hu 0 (.string y) rfl
      rwa [show j * Kd.string.sz + 0 = j from by show j * 1 + 0 = j; omega] at this
    have h0 := key 0 x rfl
    have hadd : ad.add 0 = ad := rfl
    rw [hadd] at h0
    obtain ⟨bk, o, sp⟩ := ad
    cases sp with
    | some z =>
      exfalso
      unfold World.cell? at h0
      simp only [Option.isSome_some, if_true] at h0
      split at h0 <;> cases h0
    | none =>
      refine (Try.strings_Join bk o c0 (x :: xs) a1 w ?_ (World.block_lt_of_cell? w _ h0) h1 hc h2)
      intro j y hy
      have := key j y hy
      unfold Addr.add at this
      split at this
      · rename_i hj
        subst hj
        exact this
      · exact this
end Go.Proofs.Ytmfladkimmnccaa.Lx
