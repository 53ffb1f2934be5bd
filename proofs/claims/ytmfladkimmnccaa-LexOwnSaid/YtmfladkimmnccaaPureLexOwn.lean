/- LexOwn: what Scan tells is its caller's. No condition. -/
import Derived.Test.YtmfladkimmnccaaPLx11
import Derived.Test.YtmfladkimmnccaaLxp
namespace Go.Proofs.Ytmfladkimmnccaa.Pure
open Go.RowKit Go.Proofs.Ytmfladkimmnccaa.PL Go.Proofs.YtmfladkimmnccaaW.PrintWords Go.Proofs.YtmfladkimmnccaaW.PrintLast Go.Proofs.Ytmfladkimmnccaa.Lx

theorem own_go (s : ByteArray) (l : List S32) (hl : ((scan s).1.map toS) = l) (hlen : l.length ≤ 65537) : ∀ (d i : Nat) (x : List S32), x.length ≤ 65537 → x.length - i ≤ d → i ≤ x.length → Ev (fun k => lathelaw06_LexOwn.l0 k s x l l (i : Int)) true := by
  intro d
  have last : ∀ (x : List S32) (i : Nat), x.length ≤ 65537 → ¬ i < x.length → Ev (fun k => lathelaw06_LexOwn.l0 k s x l l (i : Int)) true := by
    intro x i hx hi
    obtain ⟨K, h⟩ := same_self_at l (by omega)
    refine ⟨K + 1, fun k hk => ?_⟩
    obtain ⟨k, rfl⟩ : ∃ m, k = m + 1 := ⟨k - 1, by omega⟩
    simp only [lathelaw06_LexOwn.l0]
    rw [if_neg (by omega)]
    rw [scan_f, hl]
    simp -implicitDefEqProofs only [Option.bind_some]
    rw [if_pos (by simp; omega), if_pos (by simp; omega), h _ (by omega)]
    simp -implicitDefEqProofs only [Option.bind_some]
    rw [if_pos trivial, if_pos trivial, works]
    rfl
  induction d with
  | zero => intro i x hx hi hi2; exact last x i hx (by omega)
  | succ d ih =>
    intro i x hx hi hi2
    by_cases hlt : i < x.length
    · refine Ev.step (fun k => ?_) (ih (i + 1) (x.set i ⟨0, ⟨#[115, 112, 111, 105, 108, 116]⟩, 0⟩) (by rw [List.length_set]; exact hx) (by rw [List.length_set]; omega) (by rw [List.length_set]; omega))
      simp only [lathelaw06_LexOwn.l0]
      rw [if_pos (by omega), if_pos (by omega), show wrap64 ((i : Int) + 1) = ((i + 1 : Nat) : Int) by unfold wrap64; omega]
      rfl
    · exact last x i hx hlt
theorem LexOwn : lathelaw06_LexOwn.Pure := by
  intro s _
  obtain ⟨l, hl⟩ : ∃ l, (scan s).1.map toS = l := ⟨_, rfl⟩
  have hlen : l.length ≤ 65537 := by
    rw [← hl, List.length_map]
    exact scan_len s
  obtain ⟨K1, h1⟩ := scan_ref_at s
  obtain ⟨K2, h2⟩ := own_go s l hl hlen _ 0 l hlen (Nat.le_refl _) (Nat.zero_le _)
  refine ⟨K1 + K2, ?_⟩
  unfold lathelaw06_LexOwn.f
  rw [scan_f]
  simp -implicitDefEqProofs only [Option.bind_some]
  rw [h1 _ (by omega)]
  simp -implicitDefEqProofs only [Option.bind_some]
  rw [hl]
  exact h2 _ (by omega)
end Go.Proofs.Ytmfladkimmnccaa.Pure
