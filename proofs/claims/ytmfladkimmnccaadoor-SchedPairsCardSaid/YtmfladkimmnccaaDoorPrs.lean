/- SchedPairs: what the sums, products, lesser, greater, delays and stops of two schedules come to. No condition. -/
import Derived.Test.YtmfladkimmnccaaDoorPra
import Derived.Test.YtmfladkimmnccaaDoorVlu
set_option linter.unusedVariables false
set_option linter.unusedSimpArgs false
namespace Go.Proofs.YtmfladkimmnccaaDoor.Sto
open Go.RowKit Lathe Go.Proofs.YtmfladkimmnccaaDoorW.PrintWords Go.Proofs.YtmfladkimmnccaaDoorW.PrintMore Go.Proofs.YtmfladkimmnccaaDoor.PW Go.Proofs.YtmfladkimmnccaaDoor.Tre Go.Proofs.YtmfladkimmnccaaDoor.Mag Go.Proofs.YtmfladkimmnccaaDoor.Row
open Go.Proofs.YtmfladkimmnccaaDoor.May (fin)

theorem Wf_le {d e : Nat} (h : d ≤ e) {x : T} (hx : Wf d x) : Wf e x := by
  induction h with
  | refl => exact hx
  | step _ ih => exact Wf_more ih
theorem wf_i64 {y : Int} (h0 : -9223372036854775808 ≤ y) (h1 : y ≤ 9223372036854775807) : (Lit.int .i64 y).wf = true := by
  simp [Lit.wf, IntKind.min, IntKind.max, IntKind.signed, IntKind.bits]
  omega
theorem wf_over {d : Nat} {o : Int} (h0 : 0 ≤ o) (h1 : o ≤ 100) {l : List Int} (hl : l.length ≤ 1) (hy : ∀ y ∈ l, (Lit.int .i64 y).wf = true) {l3 : List T} (h3 : l3.length ≤ 2) (hk : ∀ c ∈ l3, Wf d c) : Wf (d + 1) (⟨o, [], l, l3⟩ : T) :=
  ⟨wf_i64 (by show -9223372036854775808 ≤ o; omega) (by show o ≤ 9223372036854775807; omega), by show (0 : Nat) ≤ 35184372087808; omega, by show l.length ≤ 17592186043904; omega, by show l3.length ≤ 1759218604390; omega, fun y h => absurd h (by simp), hy, hk⟩
theorem cnt_two (d : Nat) (o : Int) (a b : T) : cnt (d + 1) (⟨o, [], [], [a, b]⟩ : T) = 1 + (cnt d a + cnt d b) := by
  rw [cnt]
  simp
theorem dpt_two (d : Nat) (o : Int) (a b : T) : dpt (d + 1) (⟨o, [], [], [a, b]⟩ : T) = 1 + max (dpt d a) (dpt d b) := by
  rw [dpt]
  simp [mxl]
theorem cnt_one (d : Nat) (o : Int) (l : List Int) (a : T) : cnt (d + 1) (⟨o, [], l, [a]⟩ : T) = 1 + cnt d a := by
  rw [cnt]
  simp
theorem may_two {o : Int} (h0 : 8 ≤ o) (h1 : o ≤ 11) {a b : T} (ha : MayE a true) (hb : MayE b true) : MayE (⟨o, [], [], [a, b]⟩ : T) true := by
  obtain ⟨K1, h1'⟩ := ha
  obtain ⟨K2, h2'⟩ := hb
  have e1 := h1' (max K1 K2) (by omega)
  have e2 := h2' (max K1 K2) (by omega)
  dsimp only at e1 e2
  have er : rowO (max K1 K2) o [] [] 2 = some true := by
    unfold rowO
    rw [if_neg (by omega), if_neg (by omega), if_neg (by omega), if_neg (by omega), if_neg (by omega), if_neg (by omega), if_neg (by omega), if_pos (by omega)]
    rfl
  refine Ev.of (fun k => may_mono k _ _ _ _) (k := max K1 K2 + 1) ?_
  show mayF (max K1 K2 + 1) o [] [] [a, b] = some true
  rw [mayF, if_pos (by simp), if_pos (show ([] : List Int).all fin = true from rfl), show [a, b].length = 2 from rfl, er, Option.bind_some, if_pos rfl, kidsF, e1, Option.bind_some, if_pos rfl, kidsF, e2, Option.bind_some, if_pos rfl]
  rfl
theorem may_one {o n : Int} (ho : o = 12 ∨ o = 13) (h0 : 0 ≤ n) (h1 : n ≤ 2147483647) {a : T} (ha : MayE a true) : MayE (⟨o, [], [n], [a]⟩ : T) true := by
  obtain ⟨K1, h1'⟩ := ha
  have e1 := h1' K1 (by omega)
  dsimp only at e1
  have er : rowO K1 o [] [n] 1 = some true := by
    unfold rowO
    rw [if_neg (by omega), if_neg (by omega), if_neg (by omega), if_neg (by omega), if_neg (by omega), if_neg (by omega), if_neg (by omega), if_neg (by omega), if_pos (by omega)]
    have e : win (rd [n] 0) 0 2147483647 = true := by
      show win n 0 2147483647 = true
      unfold win
      rw [decide_eq_true h0, decide_eq_true h1]
      rfl
    rw [e]
    rfl
  refine Ev.of (fun k => may_mono k _ _ _ _) (k := K1 + 1) ?_
  show mayF (K1 + 1) o [] [n] [a] = some true
  rw [mayF, if_pos (by simp), if_pos (show ([] : List Int).all fin = true from rfl), show [a].length = 1 from rfl, er, Option.bind_some, if_pos rfl, kidsF, e1, Option.bind_some, if_pos rfl]
  rfl
/-- What the two-kid operations do. -/
def opv (o : Int) (a b : Nat) : Nat := if o = 8 then fadd a b else if o = 9 then fmul a b else if o = 10 then fmin a b else fmax a b
theorem opv_comm (o : Int) {a b : Nat} (ha : a < 4294967296) (hb : b < 4294967296) : opv o a b = opv o b a := by
  unfold opv
  rw [fadd_comm, fmul_comm, fmin_comm ha hb, fmax_comm ha hb]
theorem at_two {o : Int} (h0 : 8 ≤ o) (h1 : o ≤ 11) {a b : T} {n : Int} {u v : Nat} (ha : AtE a n u) (hb : AtE b n v) : AtE (⟨o, [], [], [a, b]⟩ : T) n (opv o u v) := by
  obtain ⟨K1, h1'⟩ := ha
  obtain ⟨K2, h2'⟩ := hb
  have e1 : sched_at.f (max K1 K2) (rd_T26 [a, b] 0).f0 (rd_T26 [a, b] 0).f1 (rd_T26 [a, b] 0).f2 (rd_T26 [a, b] 0).f3 n = some (u : Int) := h1' (max K1 K2) (by omega)
  have e2 : sched_at.f (max K1 K2) (rd_T26 [a, b] 1).f0 (rd_T26 [a, b] 1).f1 (rd_T26 [a, b] 1).f2 (rd_T26 [a, b] 1).f3 n = some (v : Int) := h2' (max K1 K2) (by omega)
  refine at_of (x := (⟨o, [], [], [a, b]⟩ : T)) (k := max K1 K2 + 1) ?_
  show sched_at.f (max K1 K2 + 1) o [] [] [a, b] n = some ((opv o u v : Nat) : Int)
  have c : o = 8 ∨ o = 9 ∨ o = 10 ∨ o = 11 := by omega
  rcases c with c | c | c | c
  · rw [sched_at.f, if_neg (by omega), if_neg (by omega), if_neg (by omega), if_neg (by omega), if_neg (by omega), if_pos c, if_pos (by simp), e1]
    simp only [Option.bind_some]
    rw [if_pos (by simp), e2, opv, if_pos c]
    rfl
  · rw [sched_at.f, if_neg (by omega), if_neg (by omega), if_neg (by omega), if_neg (by omega), if_neg (by omega), if_neg (by omega), if_pos c, if_pos (by simp), e1]
    simp only [Option.bind_some]
    rw [if_pos (by simp), e2, opv, if_neg (by omega), if_pos c]
    rfl
  · rw [sched_at.f, if_neg (by omega), if_neg (by omega), if_neg (by omega), if_neg (by omega), if_neg (by omega), if_neg (by omega), if_neg (by omega), if_pos c, if_pos (by simp), e1]
    simp only [Option.bind_some]
    rw [if_pos (by simp), e2, opv, if_neg (by omega), if_neg (by omega), if_pos c]
    rfl
  · rw [sched_at.f, if_neg (by omega), if_neg (by omega), if_neg (by omega), if_neg (by omega), if_neg (by omega), if_neg (by omega), if_neg (by omega), if_neg (by omega), if_pos c, if_pos (by simp), e1]
    simp only [Option.bind_some]
    rw [if_pos (by simp), e2, opv, if_neg (by omega), if_neg (by omega), if_neg (by omega)]
    rfl
theorem at_one {o p n : Int} (h0 : 0 ≤ n) (h1 : n ≤ 2147483647) (ho : o = 12 ∧ p = 0 ∨ o = 13 ∧ p = n) {a : T} {u : Nat} (ha : AtE a n u) : AtE (⟨o, [], [p], [a]⟩ : T) n u := by
  obtain ⟨K, h⟩ := ha
  have e1 : sched_at.f K (rd_T26 [a] 0).f0 (rd_T26 [a] 0).f1 (rd_T26 [a] 0).f2 (rd_T26 [a] 0).f3 n = some (u : Int) := h K (by omega)
  refine at_of (x := (⟨o, [], [p], [a]⟩ : T)) (k := K + 1) ?_
  show sched_at.f (K + 1) o [] [p] [a] n = some (u : Int)
  rcases ho with ⟨c, hp⟩ | ⟨c, hp⟩
  · have e : mx (wrap64 (n - rd [p] 0)) 0 = n := by
      subst hp
      show mx (wrap64 (n - 0)) 0 = n
      rw [w64 (by omega) (by omega)]
      unfold mx
      split <;> omega
    rw [sched_at.f, if_neg (by omega), if_neg (by omega), if_neg (by omega), if_neg (by omega), if_neg (by omega), if_neg (by omega), if_neg (by omega), if_neg (by omega), if_neg (by omega), if_pos c, if_pos (by simp), if_pos (by simp), e, e1]
    rfl
  · have e : mn n (rd [p] 0) = n := by
      subst hp
      show mn p p = p
      unfold mn
      split <;> rfl
    rw [sched_at.f, if_neg (by omega), if_neg (by omega), if_neg (by omega), if_neg (by omega), if_neg (by omega), if_neg (by omega), if_neg (by omega), if_neg (by omega), if_neg (by omega), if_neg (by omega), if_pos c, if_pos (by simp), if_pos (by simp), e, e1]
    rfl
theorem pair_val {d : Nat} {a b : T} (ha : Wf d a) (hb : Wf d b) (ca : cnt d a ≤ 4096) (cb : cnt d b ≤ 4096) (ma : MayE a true) (mb : MayE b true) {n : Int} (h0 : 0 ≤ n) (h1 : n ≤ 2147483647) {o : Int} (o0 : 8 ≤ o) (o1 : o ≤ 11) :
    ∃ r1 r2 : Int, ValE (⟨o, [], [], [a, b]⟩ : T) n (r1, r2) ∧ ValE (⟨o, [], [], [b, a]⟩ : T) n (r1, r2) := by
  have hab : Wf (d + 1) (⟨o, [], [], [a, b]⟩ : T) := wf_over (by omega) (by omega) (by simp) (by simp) (by simp) (fun c hc => by
    rcases List.mem_cons.1 hc with rfl | hc
    · exact ha
    · rcases List.mem_cons.1 hc with rfl | hc
      · exact hb
      · simp at hc)
  have hba : Wf (d + 1) (⟨o, [], [], [b, a]⟩ : T) := wf_over (by omega) (by omega) (by simp) (by simp) (by simp) (fun c hc => by
    rcases List.mem_cons.1 hc with rfl | hc
    · exact hb
    · rcases List.mem_cons.1 hc with rfl | hc
      · exact ha
      · simp at hc)
  have k1 := cnt_two d o a b
  have k2 := cnt_two d o b a
  have p1 := dpt_two d o a b
  have p2 := dpt_two d o b a
  by_cases c : dpt (d + 1) (⟨o, [], [], [a, b]⟩ : T) ≤ 64 ∧ cnt (d + 1) (⟨o, [], [], [a, b]⟩ : T) ≤ 4096
  · obtain ⟨u, hu, hau⟩ := at_lt d a ha ma n
    obtain ⟨v, hv, hbv⟩ := at_lt d b hb mb n
    have t1 := value_ok (d + 1) _ hab c.1 c.2 (may_two o0 o1 ma mb) n h0 h1 _ (at_two o0 o1 hau hbv)
    have t2 := value_ok (d + 1) _ hba (by omega) (by omega) (may_two o0 o1 mb ma) n h0 h1 _ (at_two o0 o1 hbv hau)
    rw [opv_comm o hv hu] at t2
    exact ⟨_, _, t1, t2⟩
  · refine ⟨0, 1, ?_, ?_⟩
    · rcases value_ev (d + 1) _ hab (by omega) n with ⟨v, _, _, e1, e2, _⟩ | h
      · exact absurd ⟨e1, e2⟩ c
      · exact h
    · rcases value_ev (d + 1) _ hba (by omega) n with ⟨v, _, _, e1, e2, _⟩ | h
      · exact absurd ⟨by omega, by omega⟩ c
      · exact h
theorem one_val {d : Nat} {a : T} (ha : Wf d a) (ca : cnt d a ≤ 4096) {n : Int} (h0 : 0 ≤ n) (h1 : n ≤ 2147483647) {o p : Int} (ho : o = 12 ∧ p = 0 ∨ o = 13 ∧ p = n) {u : Nat} (hu : AtE a n u) :
    ∃ s1 s2 : Int, ValE (⟨o, [], [p], [a]⟩ : T) n (s1, s2) ∧ (s2 = 0 → s1 = (u : Int)) := by
  have hp : 0 ≤ p ∧ p ≤ 2147483647 := by omega
  have hwf : Wf (d + 1) (⟨o, [], [p], [a]⟩ : T) := wf_over (by omega) (by omega) (by simp) (fun y hy => by
    obtain rfl := List.mem_singleton.1 hy
    exact wf_i64 (by omega) (by omega)) (by simp) (fun c hc => by
    obtain rfl := List.mem_singleton.1 hc
    exact ha)
  have k1 := cnt_one d o [p] a
  rcases value_ev (d + 1) _ hwf (by omega) n with ⟨v, hv, hav, _⟩ | h
  · refine ⟨v, 0, hv, fun _ => ?_⟩
    exact Ev.uniq hav (at_one h0 h1 ho hu)
  · exact ⟨0, 1, h, fun e => absurd e (by decide)⟩
end Go.Proofs.YtmfladkimmnccaaDoor.Sto
