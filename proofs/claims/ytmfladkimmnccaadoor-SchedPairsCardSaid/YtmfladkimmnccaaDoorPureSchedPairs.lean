/- SchedPairs: a call with any two schedules and any step answers true. No condition. -/
import Derived.Test.YtmfladkimmnccaaDoorPwk
import Derived.Test.YtmfladkimmnccaaDoorPrs
set_option linter.unusedVariables false
namespace Go.Proofs.YtmfladkimmnccaaDoor.Pure
open Go.RowKit Lathe Go.Proofs.YtmfladkimmnccaaDoorW.PrintWords Go.Proofs.YtmfladkimmnccaaDoorW.PrintMore Go.Proofs.YtmfladkimmnccaaDoor.PW Go.Proofs.YtmfladkimmnccaaDoor.Tre Go.Proofs.YtmfladkimmnccaaDoor.Sto Go.Proofs.YtmfladkimmnccaaDoor.Pwk
theorem SchedPairs (w : World) (hl : Wav.Lies w) (d0 : Nat) (a : T) (h0 : Wf d0 a) (d1 : Nat) (b : T) (h1 : Wf d1 b) (n : Int) {A1 A2 A3 B1 B2 B3 : Option Addr} {c1 c2 c3 e1 e2 e3 : Nat} (ra1 : Kd.C (Kd.int .u32) w A1 a.f1.length a.f1) (qa1 : a.f1.length ≤ c1) (ra2 : Kd.C (Kd.int .i64) w A2 a.f2.length a.f2) (qa2 : a.f2.length ≤ c2) (ra3 : Kd.C k26 w A3 a.f3.length a.f3) (qa3 : a.f3.length ≤ c3) (rb1 : Kd.C (Kd.int .u32) w B1 b.f1.length b.f1) (qb1 : b.f1.length ≤ e1) (rb2 : Kd.C (Kd.int .i64) w B2 b.f2.length b.f2) (qb2 : b.f2.length ≤ e2) (rb3 : Kd.C k26 w B3 b.f3.length b.f3) (qb3 : b.f3.length ≤ e3) :
    Calls Tryd.prog 8 #[.agg #[.int .i64 a.f0, .slice A1 a.f1.length c1, .slice A2 a.f2.length c2, .slice A3 a.f3.length c3], .agg #[.int .i64 b.f0, .slice B1 b.f1.length e1, .slice B2 b.f2.length e2, .slice B3 b.f3.length e3], .int .i64 n] w fun e w' => e = .returned (.bool true) ∧ Below w.heap.size w w' := by
  have ha : Wf (max d0 d1) a := Wf_le (by omega) h0
  have hb : Wf (max d0 d1) b := Wf_le (by omega) h1
  generalize max d0 d1 = d at ha hb
  have hga := great_ev d a ha
  have hgb := great_ev d b hb
  by_cases ca : 9000 < cnt d a
  · rw [decide_eq_true ca] at hga
    exact walk1 w hl a b n ra1 qa1 ra2 qa2 ra3 qa3 rb1 qb1 rb2 qb2 rb3 qb3 hga
  rw [decide_eq_false ca] at hga
  by_cases cb : 9000 < cnt d b
  · rw [decide_eq_true cb] at hgb
    exact walk2 w hl a b n ra1 qa1 ra2 qa2 ra3 qa3 rb1 qb1 rb2 qb2 rb3 qb3 hga hgb
  rw [decide_eq_false cb] at hgb
  rcases value_ev d a ha (by omega) n with ⟨v, hv, av, _, ka, ma, n0, n1⟩ | hv
  · rcases value_ev d b hb (by omega) n with ⟨u, hu, au, _, kb, mb, _, _⟩ | hu
    · obtain ⟨s1, s2, h12, hs⟩ := one_val ha ka n0 n1 (Or.inl ⟨rfl, rfl⟩) av
      obtain ⟨t1, t2, h13, ht⟩ := one_val ha ka n0 n1 (Or.inr ⟨rfl, rfl⟩) av
      exact walk5 w hl a b n ra1 qa1 ra2 qa2 ra3 qa3 rb1 qb1 rb2 qb2 rb3 qb3 hga hgb _ _ hv hu (fun o o0 o1 => pair_val ha hb ka kb ma mb n0 n1 o0 o1) s1 s2 t1 t2 h12 h13 hs ht
    · exact walk4 w hl a b n ra1 qa1 ra2 qa2 ra3 qa3 rb1 qb1 rb2 qb2 rb3 qb3 hga hgb _ hv hu
  · rcases value_ev d b hb (by omega) n with ⟨u, hu, _⟩ | hu
    · exact walk3 w hl a b n ra1 qa1 ra2 qa2 ra3 qa3 rb1 qb1 rb2 qb2 rb3 qb3 hga hgb _ _ hv hu
    · exact walk3 w hl a b n ra1 qa1 ra2 qa2 ra3 qa3 rb1 qb1 rb2 qb2 rb3 qb3 hga hgb _ _ hv hu
end Go.Proofs.YtmfladkimmnccaaDoor.Pure
