/- The pure form of PairTurns: a product turned round, conjugated; the square as a product. No condition. -/
import Derived.Test.YtcegmbplgghjnaaFpe
import Derived.Test.YtcegmbplgghjnaaPTx2
import Derived.Test.YtcegmbplgghjnaaPTx3
set_option linter.unusedVariables false
set_option linter.unusedSimpArgs false
namespace Lathe
open Ieee
/-- Told already. -/
def Told (x : Nat) : Prop := x < 4294967296 ∧ (rg x ≤ 2139095040 ∨ x = 2143289344)
theorem Told.neg_neg {x : Nat} (h : Told x) : fneg (fneg x) = x := by
  rcases h.2 with h' | h'
  · exact fneg_fneg h.1 h'
  · subst h'; decide
theorem Told.tl {x : Nat} (h : Told x) : Lathe.tl x = x := by
  rcases h.2 with h' | h'
  · exact tl_num h'
  · subst h'; decide
theorem told_res {o : Option Datum} (h : ∀ d, o = some d → d.isNaN = false) : Told (res (o.map single.write)) := by
  cases o with
  | none => exact ⟨by decide, .inr rfl⟩
  | some d => exact ⟨Format.write_lt single d, .inl (rg_write d (h d rfl))⟩
theorem told_add (a b : Nat) : Told (fadd a b) := told_res (fun d e => sum_nan e)
theorem told_sub (a b : Nat) : Told (fsub a b) := told_res (fun d e => sum_nan e)
theorem told_mul (a b : Nat) : Told (fmul a b) := told_res (fun d e => product_nan e)
theorem fmul_neg' (a : Nat) {b : Nat} (hb : b < 4294967296) : fmul a (fneg b) = fneg (fmul a b) := by
  rw [fmul_comm, fmul_neg hb, fmul_comm]
theorem fmul_tl' (a b : Nat) : fmul a (tl b) = fmul a b := by rw [fmul_comm, fmul_tl_left, fmul_comm]
/-- Both turned: the product as it was. -/
theorem fmul_neg2 {a b : Nat} (ha : a < 4294967296) (hb : b < 4294967296) : fmul (fneg a) (fneg b) = fmul a b := by
  rw [fmul_neg ha, fmul_neg' a hb, (told_mul a b).neg_neg]
/-- A turned number taken away is the number added. -/
theorem fsub_neg {a b : Nat} (hb : Told b) : fsub a (fneg b) = fadd a b := by
  rcases hb.2 with h | h
  · rw [fneg_num hb.1 h, fsub_flip (flip_lt' hb.1)]
    congr 1
    rw [flip_lt (flip_lt' hb.1), flip_lt hb.1]
    have := hb.1
    split <;> split <;> omega
  · subst h
    have e : fneg 2143289344 = 2143289344 := by decide
    rw [e, fsub_flip (by decide), fadd_nan (.inr (by decide)), fadd_nan (.inr (by decide))]
/-- Alik: the same, but for the sign of noughts. -/
def Alik (x y : Nat) : Prop := x = y ∨ rg x = 0 ∧ rg y = 0
theorem datum_opp_sum {d e x : Datum} (h : d.sum e = some x) : ∃ y, d.opposite.sum e.opposite = some y ∧ (y = x.opposite ∨ ∃ s t p, x = .number s 0 p ∧ y = .number t 0 p) := by
  cases d with
  | number s m p =>
    cases e with
    | number t n q =>
      simp only [Datum.sum, Datum.opposite, Option.some.injEq] at h ⊢
      subst h
      refine ⟨_, rfl, ?_⟩
      have hs (b : Bool) (m k : Nat) : signed (!b) m k = -signed b m k := by
        unfold signed
        cases b <;> simp
      rw [hs, hs, ← Int.neg_add]
      generalize signed s m (p - min p q).toNat + signed t n (q - min p q).toNat = T
      by_cases z : T = 0
      · right
        subst z
        exact ⟨_, _, _, rfl, rfl⟩
      · left
        simp only [Datum.opposite]
        rw [if_neg z, if_neg (by omega), Int.natAbs_neg]
        congr 1
        rw [Bool.eq_iff_iff]; simp; omega
    | infinity t =>
      simp only [Datum.sum, Datum.opposite, Option.some.injEq] at h ⊢
      subst h
      exact ⟨_, rfl, .inl rfl⟩
    | nan t z => simp [Datum.sum] at h
  | infinity s =>
    cases e with
    | number t n q =>
      simp only [Datum.sum, Datum.opposite, Option.some.injEq] at h ⊢
      subst h
      exact ⟨_, rfl, .inl rfl⟩
    | infinity t =>
      cases s <;> cases t <;> simp [Datum.sum, Datum.opposite] at h ⊢ <;> subst h <;> simp [Datum.opposite]
    | nan t z => simp [Datum.sum] at h
  | nan s z => simp [Datum.sum] at h
theorem write_num0 (s : Bool) (p : Int) : single.write (.number s 0 p) = pk s 0 := write_zero s p
theorem datum_opp_opp (d : Datum) : d.opposite.opposite = d := by cases d <;> simp [Datum.opposite]
theorem fadd_flip {a b : Nat} (ha : a < 4294967296) (hb : b < 4294967296) : Alik (fadd (flip a) (flip b)) (fneg (fadd a b)) := by
  unfold fadd Format.add
  rw [read_flip ha, read_flip hb]
  cases h : (single.read a).sum (single.read b) with
  | none =>
    have h' : (single.read a).opposite.sum (single.read b).opposite = none := by
      cases h2 : (single.read a).opposite.sum (single.read b).opposite with
      | none => rfl
      | some y =>
        obtain ⟨z, hz, _⟩ := datum_opp_sum h2
        rw [datum_opp_opp, datum_opp_opp, h] at hz
        cases hz
    rw [h']
    left; decide
  | some x =>
    obtain ⟨y, hy, hd⟩ := datum_opp_sum h
    rw [hy]
    show Alik (single.write y) (fneg (single.write x))
    rcases hd with rfl | ⟨s, t, p, rfl, rfl⟩
    · left
      have hx := sum_nan h
      rcases write_opp x with e | e
      · rw [e, fneg_num (Format.write_lt single x) (rg_write x hx)]
      · rw [hx] at e; cases e
    · right
      rw [write_num0, write_num0, fneg_num (by unfold pk; split <;> omega) (by rw [rg_pk (by omega)]; omega), flip_pk (by omega), rg_pk (by omega), rg_pk (by omega)]
      exact ⟨rfl, rfl⟩
theorem fadd_neg2 {a b : Nat} (ha : Told a) (hb : Told b) : Alik (fadd (fneg a) (fneg b)) (fneg (fadd a b)) := by
  rcases ha.2 with h | h
  · rcases hb.2 with h' | h'
    · rw [fneg_num ha.1 h, fneg_num hb.1 h']
      exact fadd_flip ha.1 hb.1
    · subst h'
      left
      have e : fneg 2143289344 = 2143289344 := by decide
      rw [e, fadd_nan (.inr (by decide)), fadd_nan (.inr (by decide)), e]
  · subst h
    left
    have e : fneg 2143289344 = 2143289344 := by decide
    rw [e, fadd_nan (.inl (by decide)), fadd_nan (.inl (by decide)), e]
end Lathe
namespace Go.Proofs.Ytcegmbplgghjnaa.Pure
open Go.RowKit Lathe Go.Proofs.Ytcegmbplgghjnaa.PT Go.Proofs.YtcegmbplgghjnaaW.PrintWords Go.Proofs.YtcegmbplgghjnaaW.PrintMore

theorem works_t : lathelaw04_works.f = some true := by
  unfold lathelaw04_works.f pair_Mul.f pair_Square.f pair_Add.f
  simp -implicitDefEqProofs only [Option.bind_some]
  have h1 : (((cmul ((1065353216 : Int).toNat, (1073741824 : Int).toNat) ((1077936128 : Int).toNat, (1082130432 : Int).toNat)).1 : Nat) : Int) = 3231711232 := by decide +kernel
  have h2 : (((cmul ((1065353216 : Int).toNat, (1073741824 : Int).toNat) ((1077936128 : Int).toNat, (1082130432 : Int).toNat)).2 : Nat) : Int) = 1092616192 := by decide +kernel
  have h3 : ((fadd (fmul (1077936128 : Int).toNat (1077936128 : Int).toNat) (fmul (1082130432 : Int).toNat (1082130432 : Int).toNat) : Nat) : Int) = 1103626240 := by decide +kernel
  have h4 : ((fadd (1065353216 : Int).toNat (1077936128 : Int).toNat : Nat) : Int) = 1082130432 := by decide +kernel
  have h5 : ((fadd (1073741824 : Int).toNat (1082130432 : Int).toNat : Nat) : Int) = 1086324736 := by decide +kernel
  rw [h1, h2, h3, h4, h5]
  rfl
theorem pat_t {a : Int} (h : (Lit.int .u32 a).wf = true) : ∃ n : Nat, a = n ∧ n < 4294967296 := by
  simp [Lit.wf, IntKind.min, IntKind.max, IntKind.signed, IntKind.bits] at h
  exact ⟨a.toNat, by omega, by omega⟩
theorem alike_t {x y : Nat} (h : Alik x y) : lathelaw04_alike.f x y = some true := by
  unfold lathelaw04_alike.f
  rcases h with h | ⟨h, h'⟩
  · rw [if_pos (by rw [h])]
  · by_cases c : (x : Int) = y
    · rw [if_pos c]
    · unfold rg at h h'
      have e1 : ((x : Int) * 2) % 4294967296 = 0 := by omega
      have e2 : ((y : Int) * 2) % 4294967296 = 0 := by omega
      simp [c, e1, e2]
theorem PairTurns (a0 a1 b0 b1 : Int) (h0 : (Lit.int .u32 a0).wf = true) (h1 : (Lit.int .u32 a1).wf = true) (h2 : (Lit.int .u32 b0).wf = true) (h3 : (Lit.int .u32 b1).wf = true) :
    lathelaw04_PairTurns.f a0 a1 b0 b1 = some true := by
  obtain ⟨a, rfl, ha⟩ := pat_t h0
  obtain ⟨b, rfl, hb⟩ := pat_t h1
  obtain ⟨c, rfl, hc⟩ := pat_t h2
  obtain ⟨d, rfl, hd⟩ := pat_t h3
  unfold lathelaw04_PairTurns.f pair_Mul.f pair_Conj.f pair_Square.f
  simp -implicitDefEqProofs only [Option.bind_some, Int.toNat_natCast]
  have e1 : (cmul (c, d) (a, b)).1 = (cmul (a, b) (c, d)).1 := by
    show fsub (fmul c a) (fmul d b) = fsub (fmul a c) (fmul b d)
    rw [fmul_comm c a, fmul_comm d b]
  have e2 : (cmul (c, d) (a, b)).2 = (cmul (a, b) (c, d)).2 := by
    show fadd (fmul c b) (fmul d a) = fadd (fmul a d) (fmul b c)
    rw [fmul_comm c b, fmul_comm d a, fadd_comm]
  have e3 : Alik (tl (cmul (a, b) (c, d)).1) (cmul (tl a, fneg b) (tl c, fneg d)).1 := by
    left
    show tl (fsub (fmul a c) (fmul b d)) = fsub (fmul (tl a) (tl c)) (fmul (fneg b) (fneg d))
    rw [(told_sub _ _).tl, fmul_tl, fmul_neg2 hb hd]
  have e4 : Alik (fneg (cmul (a, b) (c, d)).2) (cmul (tl a, fneg b) (tl c, fneg d)).2 := by
    have h := fadd_neg2 (told_mul a d) (told_mul b c)
    have : (cmul (tl a, fneg b) (tl c, fneg d)).2 = fadd (fneg (fmul a d)) (fneg (fmul b c)) := by
      show fadd (fmul (tl a) (fneg d)) (fmul (fneg b) (tl c)) = _
      rw [fmul_tl_left, fmul_neg' a hd, fmul_tl', fmul_neg hb]
    rw [this]
    rcases h with h | h
    · left; exact h.symm
    · right; exact ⟨h.2, h.1⟩
  have e5 : fadd (fmul a a) (fmul b b) = (cmul (a, b) (tl a, fneg b)).1 := by
    show _ = fsub (fmul a (tl a)) (fmul b (fneg b))
    rw [fmul_tl', fmul_neg' b hb, fsub_neg (told_mul b b)]
  rw [e1, e2, alike_t e3, alike_t e4, ← e5, works_t]
  simp -implicitDefEqProofs only [Option.bind_some, beq_self_eq_true, Bool.and_self, if_true]
end Go.Proofs.Ytcegmbplgghjnaa.Pure
