/- LexBack: what Show tells of a text's tokens is scanned to the same kinds and texts. No condition. -/
import Derived.Test.YtmfladkimmnccaaPLx13
import Derived.Test.YtmfladkimmnccaaLxo
set_option linter.unusedVariables false
set_option linter.unusedSimpArgs false
namespace Go.Proofs.Ytmfladkimmnccaa.Pure
open Go.RowKit Go.Proofs.Ytmfladkimmnccaa.PL Go.Proofs.YtmfladkimmnccaaW.PrintWords Go.Proofs.YtmfladkimmnccaaW.PrintLast Go.Proofs.Ytmfladkimmnccaa.Lx

def pk (x : Int × ByteArray) : Option ByteArray := pcs ⟨x.1, x.2, 0⟩
theorem pcs_kt (l : List Tk) : (l.map toS).filterMap pcs = (l.map kt).filterMap pk := by
  rw [List.filterMap_map, List.filterMap_map]
  rfl
theorem mark_text {c : Nat} (h : 0 ≤ mk c) : MK.extract (5 + mk c - 5).toNat (5 + mk c - 5 + 1).toNat = ⟨#[c.toUInt8]⟩ := by
  have : c = 40 ∨ c = 41 ∨ c = 44 ∨ c = 61 ∨ c = 45 ∨ c = 59 := by
    unfold mk at h
    split at h
    · omega
    split at h
    · omega
    split at h
    · omega
    split at h
    · omega
    split at h
    · omega
    split at h
    · omega
    · exact absurd h (by decide)
  rcases this with rfl | rfl | rfl | rfl | rfl | rfl <;> (apply ByteArray.ext; decide +kernel)
theorem good_pk {t : Tk} (h : Lx.Good t) : pk (kt t) = some (pc t) := by
  unfold pk pcs kt pc
  simp only
  rcases h with ⟨k1, _⟩ | ⟨kd, k1, k2, _⟩ | ⟨k1, _⟩ | ⟨c, hc, hm, k1, k2⟩
  · rw [if_pos (.inl k1), if_neg (by omega)]
  · rw [if_pos (by omega), if_neg (by omega)]
  · rw [if_neg (by omega), if_pos k1, if_pos k1]
    rfl
  · have := mk_le' c
    rw [if_neg (by omega), if_neg (by omega), if_pos (by omega), if_neg (by omega), k1, mark_text hm, k2]
theorem good_list (ts : List Tk) (hg : ∀ t ∈ ts, Lx.Good t) : (ts.map kt ++ [((0 : Int), N0)]).filterMap pk = ts.map pc := by
  rw [List.filterMap_append]
  have : [((0 : Int), N0)].filterMap pk = [] := rfl
  rw [this, List.append_nil]
  induction ts with
  | nil => rfl
  | cons t ts ih =>
    rw [List.map_cons, List.filterMap_cons, good_pk (hg t List.mem_cons_self), List.map_cons]
    simp only
    rw [ih (fun t' ht' => hg t' (List.mem_cons_of_mem _ ht'))]
theorem good_size {t : Tk} (h : Lx.Good t) : t.2.1.size ≤ 64 := by
  rcases h with ⟨_, _, h, _⟩ | ⟨kd, _, _, h1, h2, h⟩ | ⟨_, h, _⟩ | ⟨c, _, _, _, h⟩
  · exact h
  · have := num_in (s := t.2.1) (j := 0) (by omega) h1 (by rw [h])
    rw [h] at this
    exact this.2.2.1
  · exact h
  · rw [h]
    show 1 ≤ 64
    omega
theorem pc_size {t : Tk} (h : Lx.Good t) : (pc t).size ≤ 66 := by
  have := good_size h
  unfold pc
  split
  · rw [ByteArray.size_append, ByteArray.size_append]
    show 1 + t.2.1.size + 1 ≤ 66
    omega
  · omega
theorem J_le : ∀ ps : List ByteArray, (∀ p ∈ ps, p.size ≤ 66) → (J ps).size ≤ 67 * ps.length := by
  intro ps
  induction ps with
  | nil => intro _; exact Nat.zero_le _
  | cons p ps ih =>
    intro h
    have hp := h p List.mem_cons_self
    have := ih (fun q hq => h q (List.mem_cons_of_mem _ hq))
    cases ps with
    | nil =>
      show p.size ≤ 67 * 1
      omega
    | cons q r =>
      show (p ++ (B1 ++ J (q :: r))).size ≤ _
      rw [ByteArray.size_append, ByteArray.size_append]
      have hb : B1.size = 1 := rfl
      simp only [List.length_cons] at this ⊢
      omega
theorem rd_map (l : List Tk) (i : Nat) (hi : i < l.length) : rd_T32 (l.map toS) (i : Int) = toS (l[i]) := by
  unfold rd_T32
  rw [Int.toNat_natCast]
  simp [List.getD_eq_getElem?_getD, hi]
theorem kt_at {l l' : List Tk} (h : l'.map kt = l.map kt) (i : Nat) (hi : i < l.length) (hi' : i < l'.length) : (l'[i]).1 = (l[i]).1 ∧ (l'[i]).2.1 = (l[i]).2.1 := by
  have h1 : (l'.map kt)[i]? = (l.map kt)[i]? := by rw [h]
  rw [List.getElem?_map, List.getElem?_map, List.getElem?_eq_getElem hi, List.getElem?_eq_getElem hi'] at h1
  have := Option.some.inj h1
  exact ⟨congrArg (fun x : Int × ByteArray => x.1) (this : kt _ = kt _), congrArg (fun x : Int × ByteArray => x.2) (this : kt _ = kt _)⟩
theorem back_loop {l l' : List Tk} (hlen : l.length ≤ 65537) (h : l'.map kt = l.map kt) : ∀ d i : Nat, l.length - i ≤ d → i ≤ l.length → Ev (fun k => lathelaw06_LexBack.l0 k (l.map toS) (l'.map toS) (i : Int)) true := by
  have hl : l'.length = l.length := by
    have := congrArg List.length h
    simpa using this
  intro d
  have last : ∀ i : Nat, ¬ i < l.length → Ev (fun k => lathelaw06_LexBack.l0 k (l.map toS) (l'.map toS) (i : Int)) true := by
    intro i hi
    refine now_ (fun k => ?_)
    simp only [lathelaw06_LexBack.l0]
    rw [if_neg (by rw [List.length_map]; omega), works]
    rfl
  induction d with
  | zero => intro i h1 h2; exact last i (by omega)
  | succ d ih =>
    intro i h1 h2
    by_cases hlt : i < l.length
    · refine Ev.step (fun k => ?_) (ih (i + 1) (by omega) (by omega))
      obtain ⟨e1, e2⟩ := kt_at h i hlt (by omega)
      have r1 := rd_map l i hlt
      have r2 := rd_map l' i (by omega)
      simp only [lathelaw06_LexBack.l0]
      rw [if_pos (by rw [List.length_map]; omega), if_pos (by omega), if_pos (by rw [List.length_map]; omega), r1, r2, if_pos (show (toS (l'[i])).f0 = (toS (l[i])).f0 from e1), if_pos (show (toS (l'[i])).f1.toList = (toS (l[i])).f1.toList from congrArg ByteArray.toList e2), show wrap64 ((i : Int) + 1) = ((i + 1 : Nat) : Int) by unfold wrap64; omega]
    · exact last i hlt
theorem LexBack : lathelaw06_LexBack.Pure := by
  intro s _
  by_cases h0 : (scan s).2.1 = 0
  · obtain ⟨ts, e, h1, hg, e1, e2⟩ := scan_good h0
    have hlen := scan_len s
    have hkt : (scan s).1.map kt = ts.map kt ++ [((0 : Int), N0)] := by
      rw [h1, List.map_append]
      congr 1
      show [(e.1, e.2.1)] = _
      rw [e1, e2]
    have hts : ts.length ≤ 65536 := by
      rw [h1, List.length_append] at hlen
      simp at hlen
      omega
    have hpl : ((scan s).1.map toS).filterMap pcs = ts.map pc := by rw [pcs_kt, hkt, good_list ts hg]
    have hJ : (J (ts.map pc)).size ≤ 67 * 65536 := by
      have := J_le (ts.map pc) (fun p hp => by
        obtain ⟨t, ht, rfl⟩ := List.mem_map.mp hp
        exact pc_size (hg t ht))
      rw [List.length_map] at this
      omega
    have hsize : ∀ l' : List Tk, l'.map kt = (scan s).1.map kt → ∀ i : Nat, i < (l'.map toS).length → (rd_T32 (l'.map toS) (i : Int)).f1.size ≤ 9223372036854775800 := by
      intro l' hl' i hi
      rw [List.length_map] at hi
      rw [rd_map l' i hi]
      show (l'[i]).2.1.size ≤ _
      have hm : kt (l'[i]) ∈ l'.map kt := List.mem_map_of_mem (List.getElem_mem _)
      rw [hl', hkt] at hm
      rcases List.mem_append.mp hm with hm | hm
      · obtain ⟨t, ht, hte⟩ := List.mem_map.mp hm
        have := good_size (hg t ht)
        have he : t.2.1 = (l'[i]).2.1 := congrArg (fun x : Int × ByteArray => x.2) hte
        rw [← he]
        omega
      · have he : (l'[i]).2.1 = N0 := congrArg (fun x : Int × ByteArray => x.2) (List.mem_singleton.mp hm)
        rw [he]
        exact Nat.zero_le _
    obtain ⟨K1, s1⟩ := show_at (L := (scan s).1.map toS) (by rw [List.length_map]; omega) (hsize _ rfl) (by rw [hpl]; omega)
    rw [hpl] at s1
    by_cases hbig : (J (ts.map pc)).size > 65536
    · refine ⟨K1, ?_⟩
      unfold lathelaw06_LexBack.f
      rw [scan_f]
      simp -implicitDefEqProofs only [Option.bind_some]
      rw [if_pos h0, s1 _ (Nat.le_refl _)]
      simp -implicitDefEqProofs only [Option.bind_some]
      rw [if_pos (by omega), works]
      rfl
    · obtain ⟨b1, b2⟩ := scan_back ts hg (by omega)
      have hkk : (scan (J (ts.map pc))).1.map kt = (scan s).1.map kt := by rw [b2, hkt]
      have hll : (scan (J (ts.map pc))).1.length = (scan s).1.length := by
        have := congrArg List.length hkk
        simpa using this
      have hpl2 : ((scan (J (ts.map pc))).1.map toS).filterMap pcs = ts.map pc := by rw [pcs_kt, hkk, hkt, good_list ts hg]
      obtain ⟨K2, s2⟩ := show_at (L := (scan (J (ts.map pc))).1.map toS) (by rw [List.length_map]; omega) (hsize _ hkk) (by rw [hpl2]; omega)
      rw [hpl2] at s2
      obtain ⟨K3, s3⟩ : ∃ K, ∀ k, K ≤ k → lathelaw06_LexBack.l0 k ((scan s).1.map toS) ((scan (J (ts.map pc))).1.map toS) ((0 : Nat) : Int) = some true := back_loop hlen hkk _ 0 (Nat.le_refl _) (Nat.zero_le _)
      have hj : lathelaw06_LexBack.j0 (K1 + K2 + K3 + 1) ((scan s).1.map toS) ((scan (J (ts.map pc))).1.map toS) false = some true := by
        simp only [lathelaw06_LexBack.j0]
        rw [if_neg (by decide)]
        exact s3 _ (by omega)
      refine ⟨K1 + K2 + K3 + 1, ?_⟩
      unfold lathelaw06_LexBack.f
      rw [scan_f]
      simp -implicitDefEqProofs only [Option.bind_some]
      rw [if_pos h0, s1 _ (by omega)]
      simp -implicitDefEqProofs only [Option.bind_some]
      rw [if_neg (by omega), scan_f]
      simp -implicitDefEqProofs only [Option.bind_some]
      rw [if_pos b1, if_pos (by rw [List.length_map, List.length_map, hll]), s2 _ (by omega)]
      simp -implicitDefEqProofs only [Option.bind_some]
      rw [show ((J (ts.map pc)).toList != (J (ts.map pc)).toList) = false by simp]
      exact hj
  · refine ⟨0, ?_⟩
    unfold lathelaw06_LexBack.f
    rw [scan_f]
    simp -implicitDefEqProofs only [Option.bind_some]
    rw [if_neg h0, works]
    rfl
end Go.Proofs.Ytmfladkimmnccaa.Pure
