/- LexLies: each token stands at its place, and what lies between is blanks and comments. No condition. -/
import Derived.Test.YtmfladkimmnccaaPLx9
import Derived.Test.YtmfladkimmnccaaLxp
import Derived.Test.YtmfladkimmnccaaLxl
set_option linter.unusedVariables false
set_option linter.unusedSimpArgs false
namespace Go.Proofs.Ytmfladkimmnccaa.Pure
open Go.RowKit Go.Proofs.Ytmfladkimmnccaa.PL Go.Proofs.YtmfladkimmnccaaW.PrintWords Go.Proofs.YtmfladkimmnccaaW.PrintLast Go.Proofs.Ytmfladkimmnccaa.Lx

theorem gap_ev {s : ByteArray} (hs : s.size ≤ 65536) {fr q : Nat} (hq : q ≤ s.size) (last : Bool) {c c' : Bool} {p m : Nat} (h : G s c p c' m) : m = q → fr ≤ p → (c' = true → last = true) →
    Ev (fun k => lathelaw06_gap.l0 k (s.extract fr q) last c ((p - fr : Nat) : Int)) true := by
  have hsz : (s.extract fr q).size = q - fr := by rw [ByteArray.size_extract]; omega
  induction h with
  | refl c p =>
    intro hm hfr hl
    subst hm
    refine now_ (fun k => ?_)
    simp only [lathelaw06_gap.l0]
    rw [if_neg (by rw [hsz]; omega)]
    cases c with
    | true => rw [if_pos rfl, hl rfl]
    | false => rw [if_neg (by decide)]
  | nl hp hb ht ih =>
    rename_i c c' p m
    intro hm hfr hl
    have hle := ht.le
    have := ih hm (by omega) hl
    refine Ev.step (fun k => ?_) this
    simp only [lathelaw06_gap.l0]
    rw [if_pos (by rw [hsz]; omega), if_pos (by omega), bt_nw, nw_extract _ _ _ _ hq (by omega), show fr + (p - fr) = p by omega, if_pos (by omega), w1 (by omega), show p - fr + 1 = p + 1 - fr by omega]
  | cm hp hb ht ih =>
    rename_i c' p m
    intro hm hfr hl
    have hle := ht.le
    have := ih hm (by omega) hl
    refine Ev.step (f := fun k => lathelaw06_gap.j1 k (s.extract fr q) last true ((p - fr : Nat) : Int) true) (fun k => ?_) (Ev.step (fun k => ?_) this)
    · simp only [lathelaw06_gap.l0]
      rw [if_pos (by rw [hsz]; omega), if_pos (by omega), bt_nw, nw_extract _ _ _ _ hq (by omega), show fr + (p - fr) = p by omega, if_neg (by omega), if_pos trivial]
    · simp only [lathelaw06_gap.j1]
      rw [if_pos trivial, w1 (by omega), show p - fr + 1 = p + 1 - fr by omega]
  | bl hp hb ht ih =>
    rename_i c' p m
    intro hm hfr hl
    have hle := ht.le
    have := ih hm (by omega) hl
    refine Ev.step (f := fun k => lathelaw06_gap.j1 k (s.extract fr q) last false ((p - fr : Nat) : Int) true) (fun k => ?_) (Ev.step (fun k => ?_) this)
    · simp only [lathelaw06_gap.l0]
      rw [if_pos (by rw [hsz]; omega), if_pos (by omega), bt_nw, nw_extract _ _ _ _ hq (by omega), show fr + (p - fr) = p by omega, if_neg (by omega), if_neg (by decide)]
      by_cases h9 : nw s p = 9
      · rw [if_pos (by omega)]
      · rw [if_neg (by omega)]
        by_cases h13 : nw s p = 13
        · rw [if_pos (by omega)]
        · rw [if_neg (by omega), show ((nw s p : Int) == 32) = true by rw [beq_iff_eq]; omega]
    · simp only [lathelaw06_gap.j1]
      rw [if_pos trivial, w1 (by omega), show p - fr + 1 = p + 1 - fr by omega]
  | hash hp hb ht ih =>
    rename_i c' p m
    intro hm hfr hl
    have hle := ht.le
    have := ih hm (by omega) hl
    refine Ev.step (f := fun k => lathelaw06_gap.j1 k (s.extract fr q) last false ((p - fr : Nat) : Int) false) (fun k => ?_) (Ev.step (fun k => ?_) this)
    · simp only [lathelaw06_gap.l0]
      rw [if_pos (by rw [hsz]; omega), if_pos (by omega), bt_nw, nw_extract _ _ _ _ hq (by omega), show fr + (p - fr) = p by omega, if_neg (by omega), if_neg (by decide), if_neg (by omega), if_neg (by omega), show ((nw s p : Int) == 32) = false by rw [beq_eq_false_iff_ne]; omega]
    · simp only [lathelaw06_gap.j1]
      rw [if_neg (by decide), if_pos (by omega), if_pos (by rw [hsz]; omega), bt_nw, nw_extract _ _ _ _ hq (by omega), show fr + (p - fr) = p by omega, if_pos (by omega), w1 (by omega), show p - fr + 1 = p + 1 - fr by omega]
theorem gap_at {s : ByteArray} (hs : s.size ≤ 65536) {fr q : Nat} (hq : q ≤ s.size) (last : Bool) {c' : Bool} (h : G s false fr c' q) (hl : c' = true → last = true) : ∃ K, ∀ k, K ≤ k → lathelaw06_gap.f k (s.extract fr q) last = some true := by
  obtain ⟨K, h⟩ := gap_ev hs hq last h rfl (Nat.le_refl _) hl
  refine ⟨K, fun k hk => ?_⟩
  have := h k hk
  simp only [Nat.sub_self] at this
  exact this
theorem rd_drop {all : List Tk} {x : Nat} {t : Tk} {ts : List Tk} (h : all.drop x = t :: ts) : x < all.length ∧ rd_T32 (all.map toS) (x : Int) = toS t ∧ all.drop (x + 1) = ts ∧ (ts = [] ↔ x = all.length - 1) := by
  have hlt : x < all.length := by
    apply Nat.lt_of_not_le
    intro hge
    rw [List.drop_of_length_le hge] at h
    cases h
  have hg : all[x]? = some t := by
    have := congrArg List.head? h
    rw [List.head?_drop] at this
    exact this
  have hd : all.drop (x + 1) = ts := by
    have := congrArg List.tail h
    rw [List.tail_drop] at this
    exact this
  refine ⟨hlt, ?_, hd, ?_⟩
  · unfold rd_T32
    rw [Int.toNat_natCast]
    simp [List.getD_eq_getElem?_getD, hg]
  · rw [← hd, List.drop_eq_nil_iff]
    omega
theorem j2_step {k : Nat} {s txt b : ByteArray} {L : List S32} {x a c w : Int} (hw : lathelaw06_width.f a b c = some w) (h0 : 0 ≤ c) (h1 : c ≤ wrap64 (c + w)) (h2 : wrap64 (c + w) ≤ (s.size : Int))
    (h3 : (s.extract c.toNat (wrap64 (c + w)).toNat).toList = txt.toList) (h4 : ((a == 0) != (x == wrap64 ((L.length : Int) - 1))) = false) : lathelaw06_LexLies.j2 (k + 1) s L x txt a b c = lathelaw06_LexLies.l0 k s L (wrap64 (c + w)) (wrap64 (x + 1)) := by
  simp only [lathelaw06_LexLies.j2]
  rw [hw]
  simp -implicitDefEqProofs only [Option.bind_some]
  rw [if_pos h0, if_pos h1, if_pos h2, if_pos h3, if_neg (by rw [h4]; decide)]
theorem j1_plain {k : Nat} {s b : ByteArray} {L : List S32} {x a c : Int} (h : a ≠ 4) : lathelaw06_LexLies.j1 (k + 1) s L x false a b c = lathelaw06_LexLies.j2 k s L x b a b c := by
  simp only [lathelaw06_LexLies.j1]
  rw [if_neg (by decide), if_neg h]
theorem j1_text {k : Nat} {s b : ByteArray} {L : List S32} {x a c : Int} (h : a = 4) (hb : b.size ≤ 65536) : lathelaw06_LexLies.j1 (k + 1) s L x false a b c = lathelaw06_LexLies.j2 k s L x (((⟨#[34]⟩ : ByteArray) ++ b) ++ (⟨#[34]⟩ : ByteArray)) a b c := by
  have h1 : 1 + b.size ≤ 9223372036854775807 := by omega
  have h2 : ((⟨#[34]⟩ : ByteArray) ++ b).size + 1 ≤ 9223372036854775807 := by rw [ByteArray.size_append, show (⟨#[34]⟩ : ByteArray).size = 1 from rfl]; omega
  simp only [lathelaw06_LexLies.j1]
  rw [if_neg (by decide), if_pos h, if_pos h1, if_pos h2]
theorem l0_step {k : Nat} {s : ByteArray} {L : List S32} {fr x w : Int} {t : S32} (h0 : x < (L.length : Int)) (h1 : 0 ≤ x) (hrd : rd_T32 L x = t) (h2 : ¬ t.f2 < fr) (hw : lathelaw06_width.f t.f0 t.f1 t.f2 = some w) (h3 : ¬ wrap64 (t.f2 + w) > (s.size : Int))
    (h4 : 0 ≤ fr) (h5 : fr ≤ t.f2) (h6 : t.f2 ≤ (s.size : Int)) (hg : lathelaw06_gap.f k (s.extract fr.toNat t.f2.toNat) (x == wrap64 ((L.length : Int) - 1)) = some true) :
    lathelaw06_LexLies.l0 (k + 1) s L fr x = lathelaw06_LexLies.j1 k s L x false t.f0 t.f1 t.f2 := by
  subst hrd
  simp only [lathelaw06_LexLies.l0]
  rw [if_pos h0, if_pos h1, if_neg h2, hw]
  simp -implicitDefEqProofs only [Option.bind_some]
  rw [if_neg h3, if_pos h4, if_pos h5, if_pos h6, hg]
  rfl
theorem l0_end {k : Nat} {s : ByteArray} {L : List S32} {x : Int} (h0 : ¬ x < (L.length : Int)) (h1 : (L.length : Int) > 0) : lathelaw06_LexLies.l0 (k + 1) s L (s.size : Int) x = some true := by
  simp only [lathelaw06_LexLies.l0]
  rw [if_neg h0, if_pos h1, if_pos trivial, works]
  rfl
theorem lies_ev {s : ByteArray} (hs : s.size ≤ 65536) (all : List Tk) (hall : all.length ≤ 65537) : ∀ (ts : List Tk) (fr x : Nat), all.drop x = ts → Lies s fr ts → Ev (fun k => lathelaw06_LexLies.l0 k s (all.map toS) (fr : Int) (x : Int)) true := by
  intro ts
  induction ts with
  | nil => intro fr x h hL; exact hL.elim
  | cons t ts ih =>
    intro fr x h hL
    obtain ⟨hlt, hrd, hd, hlast⟩ := rd_drop h
    have hlen : ((all.map toS).length : Int) = (all.length : Int) := by rw [List.length_map]
    have hw : wrap64 (((all.map toS).length : Int) - 1) = ((all.length - 1 : Nat) : Int) := by rw [hlen]; unfold wrap64; omega
    have hwx : wrap64 ((x : Int) + 1) = ((x + 1 : Nat) : Int) := by unfold wrap64; omega
    have l0 : (x : Int) < ((all.map toS).length : Int) := by rw [hlen]; omega
    rcases hL with ⟨k1, k2, k3, k4, c, hG⟩ | ⟨k1, j, e, k2, hfr, hje, hes, hG, hLies, hT⟩
    · have hx : x = all.length - 1 := hlast.mp k2
      obtain ⟨K, hK⟩ := gap_at hs (Nat.le_refl _) true hG (fun _ => rfl)
      have hle := hG.le
      have hlx : ((x : Int) == wrap64 (((all.map toS).length : Int) - 1)) = true := by rw [hw, beq_iff_eq]; omega
      have g0 : (toS t).f0 = 0 := k1
      have g1 : (toS t).f1 = E0 := by
        apply ByteArray.ext
        exact Array.eq_empty_of_size_eq_zero k3
      have g2 : (toS t).f2 = (s.size : Int) := k4
      have gw : lathelaw06_width.f (toS t).f0 (toS t).f1 (toS t).f2 = some 0 := by rw [g0, g1]; rfl
      have gs : wrap64 ((toS t).f2 + 0) = (s.size : Int) := by rw [g2]; unfold wrap64; omega
      refine ⟨K + 4, fun k hk => ?_⟩
      obtain ⟨k, rfl⟩ : ∃ m, k = m + 4 := ⟨k - 4, by omega⟩
      show lathelaw06_LexLies.l0 (k + 3 + 1) s (all.map toS) (fr : Int) (x : Int) = some true
      rw [l0_step l0 (by omega) hrd (by rw [g2]; omega) gw (by rw [gs]; omega) (by omega) (by rw [g2]; omega) (by rw [g2]; omega) (by rw [hlx, g2]; exact hK _ (by omega))]
      rw [j1_plain (by rw [g0]; decide), j2_step gw (by rw [g2]; omega) (by rw [gs, g2]; omega) (by rw [gs]; omega) (by rw [gs, g2, g1, Int.toNat_natCast, extract_nil]) (by rw [hlx, g0]; rfl), gs, hwx]
      exact l0_end (by rw [hlen]; omega) (by rw [hlen]; omega)
    · have hts : ts ≠ [] := by
        rintro rfl
        exact hLies.elim
      have hx : x ≠ all.length - 1 := fun h => hts (hlast.mpr h)
      obtain ⟨K1, hK1⟩ := gap_at hs (show j ≤ s.size by omega) false hG (fun h => absurd h (by decide))
      obtain ⟨K2, hK2⟩ : ∃ K, ∀ k, K ≤ k → lathelaw06_LexLies.l0 k s (all.map toS) (e : Int) ((x + 1 : Nat) : Int) = some true := ih e (x + 1) hd hLies
      have hlx : ((x : Int) == wrap64 (((all.map toS).length : Int) - 1)) = false := by rw [hw, beq_eq_false_iff_ne]; omega
      have g2 : (toS t).f2 = (j : Int) := k2
      have gw : lathelaw06_width.f (toS t).f0 (toS t).f1 (toS t).f2 = some ((e - j : Nat) : Int) := by
        show lathelaw06_width.f t.1 t.2.1 t.2.2 = _
        unfold lathelaw06_width.f
        rcases hT with ⟨h4, h2, _, _, ht⟩ | ⟨h4, ht⟩
        · rw [if_pos h4, ht, ByteArray.size_extract]
          congr 1
          unfold wrap64
          omega
        · rw [if_neg h4, ht, ByteArray.size_extract]
          congr 1
          omega
      have gs : wrap64 ((toS t).f2 + ((e - j : Nat) : Int)) = (e : Int) := by rw [g2]; unfold wrap64; omega
      have gne : ((toS t).f0 == 0) = false := beq_eq_false_iff_ne.mpr k1
      refine ⟨K1 + K2 + 4, fun k hk => ?_⟩
      obtain ⟨k, rfl⟩ : ∃ m, k = m + 4 := ⟨k - 4, by omega⟩
      have hj2 : ∀ txt : ByteArray, txt = s.extract j e → lathelaw06_LexLies.j2 (k + 2) s (all.map toS) (x : Int) txt (toS t).f0 (toS t).f1 (toS t).f2 = some true := by
        intro txt htxt
        rw [j2_step gw (by rw [g2]; omega) (by rw [gs, g2]; omega) (by rw [gs]; omega) (by rw [gs, g2, Int.toNat_natCast, Int.toNat_natCast, htxt]) (by rw [hlx, gne]; rfl), gs, hwx]
        exact hK2 _ (by omega)
      show lathelaw06_LexLies.l0 (k + 3 + 1) s (all.map toS) (fr : Int) (x : Int) = some true
      rw [l0_step l0 (by omega) hrd (by rw [g2]; omega) gw (by rw [gs]; omega) (by omega) (by rw [g2]; omega) (by rw [g2]; omega) (by rw [hlx, g2]; exact hK1 _ (by omega))]
      rcases hT with ⟨h4, h2, q1, q2, ht⟩ | ⟨h4, ht⟩
      · have hz : (toS t).f1.size ≤ 65536 := by
          show t.2.1.size ≤ 65536
          rw [ht, ByteArray.size_extract]
          omega
        rw [j1_text (show (toS t).f0 = 4 from h4) hz]
        exact hj2 _ (by rw [show (toS t).f1 = t.2.1 from rfl, ht]; exact quoted_text h2 hes q1 q2)
      · rw [j1_plain (show (toS t).f0 ≠ 4 from h4)]
        exact hj2 _ ht
theorem LexLies : lathelaw06_LexLies.Pure := by
  intro s _
  by_cases h0 : (scan s).2.1 = 0
  · obtain ⟨hs, hL⟩ := scan_lies h0
    obtain ⟨K, hK⟩ : ∃ K, ∀ k, K ≤ k → lathelaw06_LexLies.l0 k s ((scan s).1.map toS) ((0 : Nat) : Int) ((0 : Nat) : Int) = some true := lies_ev hs (scan s).1 (scan_len s) _ 0 0 rfl hL
    refine ⟨K, ?_⟩
    unfold lathelaw06_LexLies.f
    rw [scan_f]
    simp -implicitDefEqProofs only [Option.bind_some]
    rw [if_pos h0]
    exact hK K (Nat.le_refl _)
  · refine ⟨0, ?_⟩
    unfold lathelaw06_LexLies.f
    rw [scan_f]
    simp -implicitDefEqProofs only [Option.bind_some]
    rw [if_neg h0, scan_err h0, if_pos (show ((List.map toS ([] : List Tk)).length : Int) = 0 from rfl), works]
    rfl
end Go.Proofs.Ytmfladkimmnccaa.Pure
