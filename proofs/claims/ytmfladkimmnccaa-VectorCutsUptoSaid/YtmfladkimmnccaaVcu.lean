/- lathelaw05.VectorCuts as a walk. Conditions: as the hypotheses say. -/
import Derived.Test.YtmfladkimmnccaaApl
import Derived.Test.YtmfladkimmnccaaWan
import Derived.Deep.RegionLaw
import Derived.Test.YtmfladkimmnccaaPGx1
import Derived.Test.YtmfladkimmnccaaPGx13
import Derived.Test.YtmfladkimmnccaaPGx14
import Derived.Test.YtmfladkimmnccaaPGx15
set_option linter.unusedVariables false
set_option linter.unusedSimpArgs false
namespace Go.Proofs.Ytmfladkimmnccaa.Vcu
open Go.RowKit Lathe Go.Proofs.YtmfladkimmnccaaW.PrintWords Go.Proofs.YtmfladkimmnccaaW.PrintMore Go.Proofs.YtmfladkimmnccaaW.PrintLast Go.Proofs.Ytmfladkimmnccaa.Sur Go.Proofs.Ytmfladkimmnccaa.Ker Go.Proofs.Ytmfladkimmnccaa.Apl Go.Proofs.Ytmfladkimmnccaa.PG
namespace Kd
open Go.Proofs.YtmfladkimmnccaaW.PrintWords.Kd
section
variable {P : Program} {ops : Array Oper} {rest : List Oper} {o : Oper} {a : Act} {Q : Exit → Act → World → Prop} {Kc : Act → World → Prop} {α : Type}
/-- append(v, ys...) as a step of a region that draws its order. -/
theorem R_rows_step (d : Kd α) {Rr : α → List Value → Prop} {w0 W : World} (base : Nat) (hw : Region.wanted o (yielded ops a.tmps) = true) (s x : Operand) (t e : TypeId) (z : Value) (bytes : Nat)
    (ho : o.op = .call { callee := .builtin .append, args := #[s, x], argTypes := #[t, t] })
    (ht : P.underlying t = some (.slice e)) (hinfo : (P.info? e).map (fun i => (i.zero, i.size, i.bytes)) = some (some z, d.sz, bytes)) (hz : z.cells.size = d.sz) (hs0 : 0 < d.sz) (hb0 : 0 < bytes)
    (v : Value) (xs ys : List α) (A : Option Addr) (m c : Nat) (ok okp : Nat → Prop) (hs : a.eval s = v) (hx : a.eval x = .slice A m c)
    (HO : d.R e W base ok v xs) (HR : ReadsRow Rr d.sz W A m ys) (hKM : ∀ x cs, Rr x cs → d.M W base okp x cs) (hokp : ∀ k, okp k → ok k ∧ some k ≠ v.ownBlock) (hfresh : ∀ k, W.heap.size ≤ k → ok k)
    (HB : Below base w0 W) (hbase : base ≤ W.heap.size) (hl : (xs.length + m) * bytes ≤ 140737488355328)
    (h : ∀ v1 w1, d.R e w1 base ok v1 (xs ++ ys) → Below base w0 w1 → W.grownBy w1 v.ownBlock → (v1.ownBlock = v.ownBlock ∨ ∃ b, v1.ownBlock = some b ∧ W.heap.size ≤ b) → Kc (a.put o.dst v1) w1) :
    if Region.wanted o (yielded ops a.tmps) = true then Oper.wp P o a W Kc Q else Kc (a.put o.dst undef) W := by
  obtain ⟨i0, hi, hzz⟩ := Option.map_eq_some_iff.1 hinfo
  simp only [Prod.mk.injEq] at hzz
  obtain ⟨hz0, hz1, hz2⟩ := hzz
  have hm : ys.length = m := HR.1
  have hlen : xs.length + m ≤ 140737488355328 := Nat.le_trans (Nat.le_mul_of_pos_right _ hb0) hl
  obtain ⟨hok, inner, hown, hr⟩ := HO
  have hrun : ∃ v1 w1, (Builtin.append_ #[t, t] o.type #[v, .slice A m c]).run P W = .ok v1 w1 ∧ d.R e w1 base ok v1 (xs ++ ys) ∧ W.grownBy w1 v.ownBlock ∧ (v1.ownBlock = v.ownBlock ∨ ∃ b, v1.ownBlock = some b ∧ W.heap.size ≤ b) := by
    rcases A with _ | ad
    · have h0 : m = 0 := by
        rcases Nat.eq_zero_or_pos m with h0 | h0
        · exact h0
        · obtain ⟨ad, h, _⟩ := HR.2.2 h0
          cases h
      subst h0
      obtain rfl : ys = [] := List.eq_nil_of_length_eq_zero hm
      refine ⟨v, W, ?_, by rw [List.append_nil]; exact ⟨hok, inner, hown, hr⟩, World.grownBy.refl W _, .inl rfl⟩
      rcases hown.2 with ⟨rfl, hn⟩ | ⟨g, cap, cur, rfl, _, _, hnc, _⟩
      · simp [Builtin.append_, run_underlying ht, sizeOf, typeInfo, hi, Builtin.lenOf, Builtin.firstCells]
      · simp [Builtin.append_, run_underlying ht, sizeOf, typeInfo, hi, Builtin.lenOf, Builtin.firstCells, hnc, storeCells]
    · obtain ⟨news, hnr, hnc⟩ := ReadsRow.inner_ HR
      have hnM : Reps (d.M W base okp) d.sz ys news := hnr.imp_ (fun p c hp => hKM p c hp)
      have hone : ∀ u ∈ news, u.oneCell' = true := by
        intro u hu
        obtain ⟨q, hq, rfl⟩ := List.mem_iff_getElem.1 hu
        have hql : q / d.sz < ys.length := by
          rw [Nat.div_lt_iff_lt_mul hs0]
          rw [← hnM.1]
          exact hq
        have hc := hnM.2 (q / d.sz) _ (List.getElem?_eq_getElem hql)
        refine d.K_one (d.K_of_M hc) _ ?_
        rw [List.mem_iff_getElem?]
        refine ⟨q % d.sz, ?_⟩
        rw [List.getElem?_take, if_pos (Nat.mod_lt _ hs0), List.getElem?_drop, Nat.mul_comm, Nat.div_add_mod, List.getElem?_eq_getElem hq]
      obtain ⟨v1, w1, hrun, h2, hg, _, hat⟩ := run_append_own_at (P := P) W base t o.type e i0 z d.sz bytes ht hi hz0 hz1 hz2 hz hs0 v xs.length inner hown ad m c news (by rw [hnM.1, hm]) hnc hone (by simp only [maxLen]; omega) hl hbase
      have hat' : v1.ownBlock = v.ownBlock ∨ ∃ b, v1.ownBlock = some b ∧ W.heap.size ≤ b := by
        rcases hat with hat | hat
        · exact .inl hat
        · exact .inr ⟨_, hat, Nat.le_refl _⟩
      have hne : ∀ k, some k ≠ v.ownBlock → k < W.heap.size → some k ≠ v1.ownBlock := by
        intro k hk hlt
        rcases hat' with hat | ⟨b, hb, hle⟩
        · rw [hat]; exact hk
        · rw [hb]
          intro he
          injection he with he
          omega
      have step : ∀ {q : α} {c : List Value} {o : Nat → Prop}, d.M W base o q c → (∀ k, o k → ok k ∧ some k ≠ v.ownBlock) → d.M w1 base (fun k => ok k ∧ some k ≠ v1.ownBlock) q c := by
        intro q c o hq ho
        have h1 := d.M_move (w1 := w1) (fun k hk => hg.block k hk.2.2.1 (ho k hk.1).2) (d.M_bound hq)
        exact d.M_mono (fun k hk => ⟨(ho k hk.1).1, hne k (ho k hk.1).2 hk.2.2.1⟩) h1
      refine ⟨v1, w1, hrun, ⟨fun k hk => ?_, inner ++ news, by rw [List.length_append, hm]; exact h2, reps_append (hr.imp_ (fun _ _ hq => step hq (fun _ hk => hk))) (hnM.imp_ (fun _ _ hq => step hq hokp))⟩, hg, hat'⟩
      rcases hat' with hat | ⟨b, hb, hle⟩
      · exact hok k (hat ▸ hk)
      · rw [hb] at hk
        injection hk with hk
        exact hfresh k (by omega)
  obtain ⟨v1, w1, hr1, h1, hg, hat⟩ := hrun
  rw [if_pos hw]
  unfold Oper.wp execOp
  simp only [ho, resolve, invoke, builtin, Sem.run_bind, Sem.run_pure, Result.andThen_ok, List.map_toArray, List.map_cons, List.map_nil, hs, hx, hr1]
  exact (h v1 w1 h1 (HB.grown hg hbase (own_base hown)) hg hat)
end
end Kd
theorem info_u32' : (Try.prog.info? 52).map (fun i => (i.zero, i.size, i.bytes)) = some (some (.int .u32 0), (Kd.int .u32).sz, 4) := by kernel_rfl
theorem lit_R (W : World) (x : Int) (base : Nat) (hb : base ≤ W.heap.size) : Kd.R (Kd.int .u32) 52 (W.alloc (.cells #[.int .u32 x] 52)) base (fun _ => True) (.slice (some ⟨W.heap.size, 0, none⟩) 1 1) [x] :=
  Kd.R_of_own (xs := [x]) ⟨by simp [encs], .inr ⟨W.heap.size, 1, #[.int .u32 x], rfl, hb, heap_alloc_new W _, Nat.le_refl _, by unfold maxLen; omega, rfl, rfl⟩⟩ (fun _ _ => trivial)
theorem sum_at {A : Option Addr} {c n m : Nat} {R : Ending → World → Prop} {W : World} (h : n = m) (hc : Calls Try.prog 32 #[.slice A n c] W R) : Calls Try.prog 32 #[.slice A m c] W R := h ▸ hc
/-- The instruction that VectorCuts applies. -/
def opn (op : Int) : Int := if op = 4 ∨ op = 5 ∨ op = 6 ∨ op = 7 ∨ op = 8 ∨ op = 9 then op else 10
theorem lit2 {W : World} {A A' : Option Addr} {n n' c c' : Nat} {l l' : List Int} (h : Kd.C (Kd.int .u32) W A n l) (hc : n ≤ c) (h' : Kd.C (Kd.int .u32) W A' n' l') (hc' : n' ≤ c') : Kd.C (Kd.slice 52 (Kd.int .u32)) (W.alloc (.cells #[.slice A n c, .slice A' n' c'] 40)) (some ⟨W.heap.size, 0, none⟩) [l, l'].length [l, l'] := by
  obtain rfl := Kd.C_len h
  obtain rfl := Kd.C_len h'
  refine ⟨rfl, by show 2 ≤ maxLen; decide, fun _ => ⟨⟨W.heap.size, 0, none⟩, rfl, fun j q hq => ?_⟩⟩
  have hj : j = 0 ∨ j = 1 := by
    have := (List.getElem?_eq_some_iff.1 hq).1
    simp at this
    omega
  rcases hj with rfl | rfl
  · simp at hq
    subst hq
    refine ⟨[.slice A l.length c], rfl, ⟨A, c, rfl, hc, Kd.C_alloc h _⟩, fun i u hu => ?_⟩
    have hi0 : i = 0 := by
      have := (List.getElem?_eq_some_iff.1 hu).1
      simp at this
      exact this
    subst hi0
    simp at hu
    subst hu
    simp [Addr.add, World.cell?_alloc_at]
  · simp at hq
    subst hq
    refine ⟨[.slice A' l'.length c'], rfl, ⟨A', c', rfl, hc', Kd.C_alloc h' _⟩, fun i u hu => ?_⟩
    have hi0 : i = 0 := by
      have := (List.getElem?_eq_some_iff.1 hu).1
      simp at this
      exact this
    subst hi0
    simp at hu
    subst hu
    rw [show (Kd.slice 52 (Kd.int .u32)).sz = 1 from rfl]
    simp [Addr.add, World.cell?_alloc_at]
theorem max2_mx (k k' : IntKind) (x y : Int) : Builtin.max2 (.int k x) (.int k' y) = pure (.int k (mx x y)) := max2_int k k' x y
def mn (a b : Int) : Int := if b < a then b else a
theorem min2_mn (k k' : IntKind) (x y : Int) : Builtin.min2 (.int k x) (.int k' y) = pure (.int k (mn x y)) := min2_int k k' x y
theorem mx_mn (a : Int) (n : Nat) : 0 ≤ mx 0 (mn a n) ∧ mx 0 (mn a n) ≤ n := by
  unfold mx mn
  constructor <;> (repeat' split) <;> omega
/-- The first of a list, as a cut of its row. -/
theorem cut_take (A : Option Addr) (c : Nat) (xs : List Int) (j : Int) (h0 : 0 ≤ j) (hm : j ≤ xs.length) (hc : xs.length ≤ c) :
    ∃ ys : List Int, ys = xs.take j.toNat ∧ (∀ W : World, (Instr.slice 40 (.slice A xs.length c) none (some (.int .i64 j)) none).run Try.prog W = .ok (.slice A ys.length c) W) ∧ (∀ w : World, Kd.C (Kd.int .u32) w A xs.length xs → Kd.C (Kd.int .u32) w A ys.length ys) ∧ ys.length ≤ c := by
  obtain ⟨i0, hi0, _, hsz, _⟩ := info_parts info_u32
  obtain ⟨h1, h2, h3⟩ := print_take_of (P := Try.prog) (Value.int .u32) (0 : Int) 40 52 .i64 Try.underlying40 hi0 hsz A c xs j h0 hm hc
  exact ⟨_, rfl, h1, fun w h => Kd.C_of_reads (h1 := fun _ => rfl) (h2 w (Kd.reads_of_C (h1 := fun _ => rfl) h)), h3⟩
theorem cut_drop (A : Option Addr) (c : Nat) (xs : List Int) (j : Int) (h0 : 0 ≤ j) (hm : j ≤ xs.length) (hc : xs.length ≤ c) :
    ∃ (A' : Option Addr) (ys : List Int) (c' : Nat), ys = xs.drop j.toNat ∧ (∀ W : World, (Instr.slice 40 (.slice A xs.length c) (some (.int .i64 j)) none none).run Try.prog W = .ok (.slice A' ys.length c') W) ∧ (∀ w : World, Kd.C (Kd.int .u32) w A xs.length xs → Kd.C (Kd.int .u32) w A' ys.length ys) ∧ ys.length ≤ c' := by
  obtain ⟨i0, hi0, _, hsz, _⟩ := info_parts info_u32
  obtain ⟨A', h1, h2, h3⟩ := print_drop_of (P := Try.prog) (Value.int .u32) (0 : Int) 40 52 .i64 Try.underlying40 hi0 hsz A c xs j h0 hm hc
  exact ⟨A', _, _, rfl, h1, fun w h => Kd.C_of_reads (h1 := fun _ => rfl) (h2 w (Kd.reads_of_C (h1 := fun _ => rfl) h)), h3⟩
attribute [local go_sem] max2_mx min2_mn
set_option maxHeartbeats 8000000 in
set_option maxRecDepth 100000 in
theorem cuts (k : Nat) (A0 : Option Addr) (c0 : Nat) (l0 : List Int) (A1 : Option Addr) (c1 : Nat) (l1 : List Int) (at_ op : Int) (w : World) (hr0 : Kd.C (Kd.int .u32) w A0 l0.length l0) (hc0 : l0.length ≤ c0) (hr1 : Kd.C (Kd.int .u32) w A1 l1.length l1) (hc1 : l1.length ≤ c1) (hl1 : l1.length ≤ 1048576) (hl0 : l0.length ≤ 1048576) (s1 : Int) (s2 q : Int) (P P1 P2 : List Int) (hp12 : P1 ++ P2 = P) (hpl : P.length ≤ 1048576) (hal : lathelaw05_alike.f k P P = some true) (hsu : lathelaw05_sure.f k = some true) (hs1 : ∀ (X Y : List Int) (tn : Nat), X = l0.take Y.length → X.length = Y.length → Y = l1.take l0.length → mx 0 (mn at_ (X.length : Int)) = (tn : Int) → vector_Sum.f k (X.take tn) = some s1 ∧ vector_Sum.f k ([s1] ++ X.drop tn) = some s2 ∧ vector_Sum.f k X = some s2 ∧ vector_Dot.f k X X = some (q, 0) ∧ vector_Squares.f k X = some q ∧ vector_Apply.f (opn op) [X, Y] = some (P, 0) ∧ vector_Apply.f (opn op) [X.take tn, Y.take tn] = some (P1, 0) ∧ vector_Apply.f (opn op) [X.drop tn, Y.drop tn] = some (P2, 0)) :
    Calls Try.prog 11 #[.agg #[.slice A0 l0.length c0, .slice A1 l1.length c1, .int .i64 at_, .int .i64 op]] w fun e w' => e = .returned (.bool true) ∧ Below w.heap.size w w' := by
  have HR0 := Aside0.mk hr0
  have HC0 := Aside0.mk hc0
  have HR1 := Aside0.mk hr1
  have HC1 := Aside0.mk hc1
  have HL0 := Aside0.mk hl0
  have HL1 := Aside0.mk hl1
  clear hr0 hc0 hr1 hc1 hl0 hl1
  go_enter Try.func11, Try.ntmps11
  go_upto_region 2 with (fail)
  go_region_held3 (fun w' => w'.cell? ⟨w.heap.size, 0, none⟩ = some (.slice A0 l0.length c0) ∧ w'.cell? ⟨w.heap.size, 1, none⟩ = some (.slice A1 l1.length c1) ∧ w'.cell? ⟨w.heap.size, 2, none⟩ = some (.int .i64 at_) ∧ w'.cell? ⟨w.heap.size, 3, none⟩ = some (.int .i64 op)) ((refine ⟨?_, ?_, ?_, ?_⟩) <;> (first | (go_simp; done))) (fail)
  rename_i hseq _
  refine hseq _ _ ?_
  clear hseq
  have hq2 : ((w.alloc (.cells #[.slice A0 l0.length c0, .slice A1 l1.length c1, .int .i64 at_, .int .i64 op] 57)).drew).cell? ⟨w.heap.size, 2, none⟩ = some (.int .i64 at_) := by go_simp
  have hq3 : ((w.alloc (.cells #[.slice A0 l0.length c0, .slice A1 l1.length c1, .int .i64 at_, .int .i64 op] 57)).drew).cell? ⟨w.heap.size, 3, none⟩ = some (.int .i64 op) := by go_simp
  have hbw : Below w.heap.size w ((w.alloc (.cells #[.slice A0 l0.length c0, .slice A1 l1.length c1, .int .i64 at_, .int .i64 op] 57)).drew) := below_drew (below_alloc (Below.refl _ _) _)
  generalize (w.alloc (.cells #[.slice A0 l0.length c0, .slice A1 l1.length c1, .int .i64 at_, .int .i64 op] 57)).drew = w1 at hq2 hq3 hbw ⊢
  have Q2 := Aside0.mk hq2
  have Q3 := Aside0.mk hq3
  have HB := Aside0.mk hbw
  clear hq2 hq3 hbw
  refine wp_seq_k fun K hK => ?_
  go_cut [4] (fun v4 wc => ∃ (Y : List Int), v4 = .slice A1 Y.length c1 ∧ Aside0 (Y = l1.take l0.length ∧ Y.length ≤ l0.length ∧ Y.length ≤ c1 ∧ Kd.C (Kd.int .u32) w A1 Y.length Y) ∧ Drawn0 w1 wc)
  case first =>
    by_cases c : (l1.length : Int) > (l0.length : Int)
    · have cb : decide ((l1.length : Int) > (l0.length : Int)) = true := decide_eq_true c
      have cb2 : decide (l0.length < l1.length) = true := decide_eq_true (by omega)
      obtain ⟨Y, eY, hcut, hY, hYc⟩ := cut_take A1 c1 l1 (l0.length : Int) (by omega) (by omega) HC1.out
      have HY : Aside0 (Y = l1.take l0.length ∧ Y.length ≤ l0.length ∧ Y.length ≤ c1 ∧ Kd.C (Kd.int .u32) w A1 Y.length Y) := ⟨by rw [eY, Int.toNat_natCast], by rw [eY, List.length_take, Int.toNat_natCast]; omega, hYc, hY w HR1.out⟩
      clear hY hYc eY c
      go_wp2
      go_meet
      case rel => exact ⟨Y, rfl, HY, by repeat (first | exact Drawn0.refl _ | apply Drawn0.step)⟩
    · have cb : decide ((l1.length : Int) > (l0.length : Int)) = false := decide_eq_false c
      have cb2 : decide (l0.length < l1.length) = false := decide_eq_false (by omega)
      have HY : Aside0 (l1 = l1.take l0.length ∧ l1.length ≤ l0.length ∧ l1.length ≤ c1 ∧ Kd.C (Kd.int .u32) w A1 l1.length l1) := ⟨by rw [List.take_of_length_le (by omega)], by omega, HC1.out, HR1.out⟩
      clear c
      go_wp2
      go_meet
      case rel => exact ⟨l1, rfl, HY, by repeat (first | exact Drawn0.refl _ | apply Drawn0.step)⟩
  case rest =>
    obtain ⟨Y, rfl, HY, ⟨m1, rfl⟩⟩ := hcut
    obtain ⟨X, eX, hcutX, hX, hXc⟩ := cut_take A0 c0 l0 (Y.length : Int) (by omega) (by have := HY.out; omega) HC0.out
    have HX : Aside0 (X = l0.take Y.length ∧ X.length = Y.length ∧ X.length ≤ c0 ∧ Kd.C (Kd.int .u32) w A0 X.length X) := ⟨by rw [eX, Int.toNat_natCast], by rw [eX, List.length_take, Int.toNat_natCast]; have := HY.out; omega, hXc, hX w HR0.out⟩
    clear hX hXc eX
    have HBM : Below w.heap.size w (w1.drewN m1) := pw_below_drewN HB.out _
    have hq2 : (w1.drewN m1).cell? ⟨w.heap.size, 2, none⟩ = some (.int .i64 at_) := Q2.out
    have Q3' : Aside0 ((w1.drewN m1).cell? ⟨w.heap.size, 3, none⟩ = some (.int .i64 op)) := ⟨Q3.out⟩
    generalize w1.drewN m1 = w1 at HBM hq2 Q3' ⊢
    clear HB Q2 Q3
    have HB := Aside0.mk HBM
    clear HBM
    have Q3 := Q3'
    clear Q3'
    obtain ⟨tn, htn⟩ : ∃ tn : Nat, mx 0 (mn at_ (X.length : Int)) = (tn : Int) := ⟨(mx 0 (mn at_ (X.length : Int))).toNat, by have := mx_mn at_ X.length; omega⟩
    have hmm := mx_mn at_ X.length
    rw [htn] at hmm
    have htl : tn ≤ X.length := by omega
    have HTN := Aside0.mk htn
    have HLX : Aside0 (X.length ≤ 1048576) := ⟨by have := HX.out; have := HY.out; have := HL0.out; omega⟩
    clear htn hmm
    have HTX : Aside0 ((X.take tn).length = tn ∧ Kd.C (Kd.int .u32) w1 A0 (X.take tn).length (X.take tn)) := ⟨by rw [List.length_take]; omega, by obtain ⟨T, eT, _, hT, _⟩ := cut_take A0 c0 X (tn : Int) (by omega) (by omega) HX.out.2.2.1; rw [Int.toNat_natCast] at eT; subst eT; exact Kd.C_below (hT w HX.out.2.2.2) HB.out⟩
    have HDX : Aside0 (Kd.C (Kd.int .u32) w1 (if c0 = tn then A0 else Option.map (fun x => x.add tn) A0) (X.length - tn) (X.drop tn)) := ⟨Kd.C_of_reads (h1 := fun _ => rfl) (ReadsOf.drop_ (Kd.reads_of_C (d := (0 : Int)) (h1 := fun _ => rfl) (Kd.C_below HX.out.2.2.2 HB.out)) tn htl HX.out.2.2.1)⟩
    have HEX : Aside0 (Kd.C (Kd.int .u32) w1 (if c1 = tn then A1 else Option.map (fun x => x.add tn) A1) (Y.length - tn) (Y.drop tn)) := ⟨Kd.C_of_reads (h1 := fun _ => rfl) (ReadsOf.drop_ (Kd.reads_of_C (d := (0 : Int)) (h1 := fun _ => rfl) (Kd.C_below HY.out.2.2.2 HB.out)) tn (by have := HX.out; omega) HY.out.2.2.1)⟩
    have hl3 : (tn ≤ c1) = True := eq_true (by have := HX.out; have := HY.out; omega)
    have hl4 : (tn ≤ Y.length) = True := eq_true (by have := HX.out; omega)
    have HTY : Aside0 ((Y.take tn).length = tn ∧ Kd.C (Kd.int .u32) w1 A1 (Y.take tn).length (Y.take tn)) := ⟨by rw [List.length_take]; have := HX.out; omega, by obtain ⟨T, eT, _, hT, _⟩ := cut_take A1 c1 Y (tn : Int) (by omega) (by have := HX.out; omega) HY.out.2.2.1; rw [Int.toNat_natCast] at eT; subst eT; exact Kd.C_below (hT w HY.out.2.2.2) HB.out⟩
    have hl1 : (tn ≤ c0) = True := eq_true (by have := HX.out; omega)
    have hl2 : (tn ≤ X.length) = True := eq_true htl
    have HTL := Aside0.mk htl
    obtain ⟨ON, hON⟩ : ∃ z, z = [s1] ++ X.drop tn := ⟨_, rfl⟩
    have HON := Aside0.mk hON
    clear htl
    have hss := hs1 X Y tn HX.out.1 HX.out.2.1 HY.out.1 HTN.out
    have HS1 := Aside0.mk hss.1
    have HS2' := Aside0.mk hss.2.1
    have HS3 := Aside0.mk hss.2.2.1
    have HD2 := Aside0.mk hss.2.2.2.1
    have HQ := Aside0.mk hss.2.2.2.2.1
    have HP0 := Aside0.mk hss.2.2.2.2.2.1
    have HP1 := Aside0.mk hss.2.2.2.2.2.2.1
    have HP2 := Aside0.mk hss.2.2.2.2.2.2.2
    have HP12 := Aside0.mk hp12
    have HPL := Aside0.mk hpl
    have HAL := Aside0.mk hal
    have HSU := Aside0.mk hsu
    clear hp12 hpl hal hsu
    have HS2 : Aside0 (vector_Sum.f k ON = some s2) := ⟨by rw [hON]; exact hss.2.1⟩
    clear hss hs1 hON HS2'
    obtain ⟨junk, hju⟩ : ∃ z : Int, (if (X.length : Int) < at_ then (X.length : Int) else at_) = z := ⟨_, rfl⟩
    have hju2 : (if 0 < junk then junk else 0) = (tn : Int) := by rw [← hju]; exact HTN.out
    obtain ⟨AD, hAD⟩ : ∃ z, (if c0 = tn then A0 else Option.map (fun x => x.add tn) A0) = z := ⟨_, rfl⟩
    obtain ⟨AE, hAE⟩ : ∃ z, (if c1 = tn then A1 else Option.map (fun x => x.add tn) A1) = z := ⟨_, rfl⟩
    rw [hAD] at HDX
    rw [hAE] at HEX
    go_upto_region 6 with (fail)
    go_region_law (first | (refine goes_ Try.func32 (by kernel_rfl) rfl #[.slice A0 tn c0] (by rfl) rfl rfl (by (try simp only [List.map_toArray, List.map_cons, List.map_nil]); first | done | rfl) ?_; refine (sum_at HTX.out.1 (vector_Sum.calls k A0 c0 (X.take tn) s1 _ (by repeat (first | exact HTX.out.2 | (with_reducible refine Kd.C_alloc ?_ _) | (with_reducible refine Kd.C_drewN ?_ _) | (with_reducible refine Kd.C_drew ?_))) (by have := HTX.out.1; have := HTL.out; have := HX.out; omega) HS1.out)).mono ?_; rintro e w' ⟨rfl, ⟨nq, rfl⟩⟩; refine ⟨_, rfl, ?_⟩) | (refine Kd.R_rows_step (Kd.int .u32) (w0 := w1) w1.heap.size (by rfl) (.tmp 43) (.tmp 46) 40 52 (.int .u32 0) 4 (by rfl) Try.underlying40 info_u32' rfl (by decide) (by omega) (.slice (some ⟨w1.heap.size, 0, none⟩) 1 1) [s1] (X.drop tn) AD (X.length - tn) (c0 - tn) (fun _ => True) (fun _ => False) (by rfl) (by rfl) (lit_R _ s1 _ (Nat.le_refl _)) (Kd.C_alloc (Kd.C_drewN HDX.out _) _) (fun _ _ h => h) (fun _ h => h.elim) (fun _ _ => trivial) (below_alloc (pw_below_drewN (Below.refl _ _) _) _) (below_alloc (pw_below_drewN (Below.refl _ _) _) _).size (by have := HLX.out; show (1 + (X.length - tn)) * 4 ≤ 140737488355328; omega) ?_; intro v6 w6 ho hb6 hgr hat; rw [← HON.out] at ho; obtain ⟨A6, d6, hu⟩ := Kd.R_slice ho; subst hu; have RO := Aside0.mk ho; have HB6 := Aside0.mk hb6; clear ho hb6 hgr hat))
    have HX6 : Aside0 (Kd.C (Kd.int .u32) w6 A0 X.length X) := ⟨Kd.C_below HX.out.2.2.2 (below_then HB.out HB.out.size HB6.out)⟩
    have HON6 : Aside0 (ON.length ≤ d6 ∧ Kd.C (Kd.int .u32) w6 A6 ON.length ON) := ⟨(Kd.R_reads' RO.out).2⟩
    go_upto_region 10 with (first | (go_at_call 33; refine (vector_Dot.calls k A0 c0 X A0 c0 X q 0 _ (by repeat (first | exact HX6.out | (with_reducible refine Kd.C_drewN ?_ _) | (with_reducible refine Kd.C_drew ?_))) HX.out.2.2.1 (by repeat (first | exact HX6.out | (with_reducible refine Kd.C_drewN ?_ _) | (with_reducible refine Kd.C_drew ?_))) HX.out.2.2.1 HD2.out).mono ?_; rintro e w' ⟨rfl, ⟨nq, rfl⟩⟩) | (go_at_call_of 32 (Value.slice A6 ON.length d6); refine (vector_Sum.calls k A6 d6 ON s2 _ (by repeat (first | exact HON6.out.2 | (with_reducible refine Kd.C_drewN ?_ _) | (with_reducible refine Kd.C_drew ?_))) HON6.out.1 HS2.out).mono ?_; rintro e w' ⟨rfl, ⟨nq, rfl⟩⟩) | (go_at_call_of 32 (Value.slice A0 X.length c0); refine (vector_Sum.calls k A0 c0 X s2 _ (by repeat (first | exact HX6.out | (with_reducible refine Kd.C_drewN ?_ _) | (with_reducible refine Kd.C_drew ?_))) HX.out.2.2.1 HS3.out).mono ?_; rintro e w' ⟨rfl, ⟨nq, rfl⟩⟩) | (go_at_call 34; refine (vector_Squares.calls k A0 c0 X q _ (by repeat (first | exact HX6.out | (with_reducible refine Kd.C_drewN ?_ _) | (with_reducible refine Kd.C_drew ?_))) HX.out.2.2.1 HQ.out).mono ?_; rintro e w' ⟨rfl, ⟨nq, rfl⟩⟩))
    have hq3 : w6.cell? ⟨w.heap.size, 3, none⟩ = some (.int .i64 op) := (HB6.out.cell (World.block_lt_of_cell? _ _ Q3.out)).trans Q3.out
    go_cut [9] (fun v9 wc => v9 = .int .i64 op ∧ Drawn0 w6 wc)
    case first =>
      go_wp2
      go_meet
      case rel => exact ⟨rfl, by repeat (first | exact Drawn0.refl _ | apply Drawn0.step)⟩
    case rest =>
    obtain ⟨rfl, ⟨m6, rfl⟩⟩ := hcut
    rename_i hs2
    refine hs2 _ _ ?_
    refine wp_seq_k fun K2 hK2 => ?_
    go_cut [9] (fun v9 wc => v9 = .int .i64 (opn op) ∧ Drawn0 w6 wc)
    case first =>
      by_cases h4 : op = 4
      · have b4 : (op != 4) = false := bne_eq_false_iff_eq.mpr h4
        have e9 : opn op = op := by unfold opn; rw [if_pos (by omega)]
        go_wp2
        go_meet
        case rel => exact ⟨by rw [e9], by repeat (first | exact Drawn0.refl _ | apply Drawn0.step)⟩
      by_cases h5 : op = 5
      · have b5 : (op != 5) = false := bne_eq_false_iff_eq.mpr h5
        have e9 : opn op = op := by unfold opn; rw [if_pos (by omega)]
        have b4 : (op != 4) = true := bne_iff_ne.mpr h4
        go_wp2
        go_meet
        case rel => exact ⟨by rw [e9], by repeat (first | exact Drawn0.refl _ | apply Drawn0.step)⟩
      by_cases h6 : op = 6
      · have b6 : (op != 6) = false := bne_eq_false_iff_eq.mpr h6
        have e9 : opn op = op := by unfold opn; rw [if_pos (by omega)]
        have b4 : (op != 4) = true := bne_iff_ne.mpr h4
        have b5 : (op != 5) = true := bne_iff_ne.mpr h5
        go_wp2
        go_meet
        case rel => exact ⟨by rw [e9], by repeat (first | exact Drawn0.refl _ | apply Drawn0.step)⟩
      by_cases h7 : op = 7
      · have b7 : (op != 7) = false := bne_eq_false_iff_eq.mpr h7
        have e9 : opn op = op := by unfold opn; rw [if_pos (by omega)]
        have b4 : (op != 4) = true := bne_iff_ne.mpr h4
        have b5 : (op != 5) = true := bne_iff_ne.mpr h5
        have b6 : (op != 6) = true := bne_iff_ne.mpr h6
        go_wp2
        go_meet
        case rel => exact ⟨by rw [e9], by repeat (first | exact Drawn0.refl _ | apply Drawn0.step)⟩
      by_cases h8 : op = 8
      · have b8 : (op != 8) = false := bne_eq_false_iff_eq.mpr h8
        have e9 : opn op = op := by unfold opn; rw [if_pos (by omega)]
        have b4 : (op != 4) = true := bne_iff_ne.mpr h4
        have b5 : (op != 5) = true := bne_iff_ne.mpr h5
        have b6 : (op != 6) = true := bne_iff_ne.mpr h6
        have b7 : (op != 7) = true := bne_iff_ne.mpr h7
        go_wp2
        go_meet
        case rel => exact ⟨by rw [e9], by repeat (first | exact Drawn0.refl _ | apply Drawn0.step)⟩
      by_cases h9 : op = 9
      · have b9 : (op != 9) = false := bne_eq_false_iff_eq.mpr h9
        have e9 : opn op = op := by unfold opn; rw [if_pos (by omega)]
        have b4 : (op != 4) = true := bne_iff_ne.mpr h4
        have b5 : (op != 5) = true := bne_iff_ne.mpr h5
        have b6 : (op != 6) = true := bne_iff_ne.mpr h6
        have b7 : (op != 7) = true := bne_iff_ne.mpr h7
        have b8 : (op != 8) = true := bne_iff_ne.mpr h8
        go_wp2
        go_meet
        case rel => exact ⟨by rw [e9], by repeat (first | exact Drawn0.refl _ | apply Drawn0.step)⟩
      have b4 : (op != 4) = true := bne_iff_ne.mpr h4
      have b5 : (op != 5) = true := bne_iff_ne.mpr h5
      have b6 : (op != 6) = true := bne_iff_ne.mpr h6
      have b7 : (op != 7) = true := bne_iff_ne.mpr h7
      have b8 : (op != 8) = true := bne_iff_ne.mpr h8
      have b9 : (op != 9) = true := bne_iff_ne.mpr h9
      have e9 : opn op = 10 := by unfold opn; rw [if_neg (by omega)]
      go_wp2
      go_meet
      case rel => exact ⟨by rw [e9], by repeat (first | exact Drawn0.refl _ | apply Drawn0.step)⟩
    case rest =>
    obtain ⟨rfl, ⟨m7, rfl⟩⟩ := hcut
    refine hK2 _ _ ?_
    clear hK2 HS1 HS3 HD2 HQ HS2 HON6 RO HON hq3 hju hju2 HTN Q3
    have HB7 : Below w.heap.size w (w6.drewN m7) := pw_below_drewN (below_then HB.out HB.out.size HB6.out) m7
    have hw17 : Below w1.heap.size w1 (w6.drewN m7) := pw_below_drewN HB6.out m7
    generalize w6.drewN m7 = w7 at HB7 hw17 ⊢
    have HX7 : Aside0 (Kd.C (Kd.int .u32) w7 A0 X.length X) := ⟨Kd.C_below HX.out.2.2.2 HB7⟩
    have HY7 : Aside0 (Kd.C (Kd.int .u32) w7 A1 Y.length Y) := ⟨Kd.C_below HY.out.2.2.2 HB7⟩
    have HT7 : Aside0 (Kd.C (Kd.int .u32) w7 A0 tn (X.take tn)) := ⟨by have := HTX.out.2; rw [HTX.out.1] at this; exact Kd.C_below this hw17⟩
    have HU7 : Aside0 (Kd.C (Kd.int .u32) w7 A1 tn (Y.take tn)) := ⟨by have := HTY.out.2; rw [HTY.out.1] at this; exact Kd.C_below this hw17⟩
    have HD7 : Aside0 (Kd.C (Kd.int .u32) w7 AD (X.length - tn) (X.drop tn)) := ⟨Kd.C_below HDX.out hw17⟩
    have HE7 : Aside0 (Kd.C (Kd.int .u32) w7 AE (Y.length - tn) (Y.drop tn)) := ⟨Kd.C_below HEX.out hw17⟩
    have B7 := Aside0.mk HB7
    clear HB7 hw17 HB6 HTX HTY HDX HEX HB HX6
    go_upto_region 14 with (first | (go_at_call 24; refine (vector_Apply.calls (opn op) _ 2 [X, Y] P 0 _ (lit2 HX7.out HX.out.2.2.1 HY7.out HY.out.2.2.1) (Nat.le_refl 2) HP0.out).mono ?_; rintro e w8 ⟨vp, rfl, hR8, hB8⟩; obtain ⟨AP, dp, rfl⟩ := Kd.R_slice hR8; have R8 := Aside0.mk hR8; have B8 := Aside0.mk (below_then (below_alloc (Below.refl w7.heap.size w7) _) (below_alloc (Below.refl _ _) _).size hB8); clear hR8 hB8))
    go_region_law (refine goes_ Try.func24 (by kernel_rfl) rfl #[.int .i64 (opn op), .slice (some ⟨w8.heap.size, 0, none⟩) 2 2] (by rfl) rfl rfl (by (try simp only [List.map_toArray, List.map_cons, List.map_nil]); first | done | rfl) ?_; refine (vector_Apply.calls (opn op) _ 2 [X.take tn, Y.take tn] P1 0 _ (lit2 (W := w8.drew) (Kd.C_drew (Kd.C_below HT7.out B8.out)) (by have := HTL.out; have := HX.out; omega) (Kd.C_drew (Kd.C_below HU7.out B8.out)) (by have := HTL.out; have := HX.out; have := HY.out; omega)) (Nat.le_refl 2) HP1.out).mono ?_; rintro e w9 ⟨v9, rfl, hR9, hB9⟩; obtain ⟨A9, d9, hu9⟩ := Kd.R_slice hR9; subst hu9; have R9 := Aside0.mk hR9; have B9 := Aside0.mk (below_then (below_alloc (below_drew (Below.refl w8.heap.size w8)) (.cells #[.slice A0 tn c0, .slice A1 tn c1] 40)) (below_alloc (below_drew (Below.refl w8.heap.size w8)) _).size hB9); clear hR9 hB9; refine ⟨_, rfl, ?_⟩)
    go_upto_region 15 with (fail)
    have B89 := Aside0.mk (below_then B8.out B8.out.size B9.out)
    go_region_law (refine goes_ Try.func24 (by kernel_rfl) rfl #[.int .i64 (opn op), .slice (some ⟨w9.heap.size, 0, none⟩) 2 2] (by rfl) rfl rfl (by (try simp only [List.map_toArray, List.map_cons, List.map_nil]); first | done | rfl) ?_; refine (vector_Apply.calls (opn op) _ 2 [X.drop tn, Y.drop tn] P2 0 _ (lit2 (W := w9.drew) (Kd.C_drew (Kd.C_below HD7.out B89.out)) (by have := HTL.out; have := HX.out; omega) (Kd.C_drew (Kd.C_below HE7.out B89.out)) (by have := HTL.out; have := HX.out; have := HY.out; omega)) (Nat.le_refl 2) HP2.out).mono ?_; rintro e w10 ⟨v10, rfl, hR10, hB10⟩; obtain ⟨A10, d10, hu10⟩ := Kd.R_slice hR10; subst hu10; have R10 := Aside0.mk hR10; have B10 := Aside0.mk (below_then (below_alloc (below_drew (Below.refl w9.heap.size w9)) (.cells #[.slice AD (X.length - tn) (c0 - tn), .slice AE (Y.length - tn) (c1 - tn)] 40)) (below_alloc (below_drew (Below.refl w9.heap.size w9)) _).size hB10); clear hR10 hB10; refine ⟨_, rfl, ?_⟩)
    go_upto_region 16 with (fail)
    have S9 : w8.heap.size ≤ (w8.drew.alloc (.cells #[.slice A0 tn c0, .slice A1 tn c1] 40)).heap.size := (below_alloc (below_drew (Below.refl w8.heap.size w8)) _).size
    have hR9 : Kd.R (Kd.int .u32) 52 w10 w8.heap.size (fun _ => True) (.slice A9 P1.length d9) P1 := Kd.R_lower (Kd.R_below R9.out B10.out) S9
    have hZ : P2.length ≤ d10 ∧ Kd.C (Kd.int .u32) w10 A10 P2.length P2 := (Kd.R_reads' R10.out).2
    have B8T : Below w8.heap.size w8 w10 := below_then B9.out B9.out.size B10.out
    have HR9 := Aside0.mk hR9
    have HZ := Aside0.mk hZ
    have HB8T := Aside0.mk B8T
    clear hR9 hZ B8T S9
    go_upto_region 17 with (first | ((with_reducible refine gate_builtin (b := .append) (xs := #[.tmp 125, .tmp 126]) rfl ?_); at_builtin; refine Kd.R_append_rows (Kd.int .u32) (w0 := w8) w8.heap.size rfl (.tmp 125) (.tmp 126) 40 52 (.int .u32 0) 4 rfl Try.underlying40 info_u32' rfl (by decide) (by omega) (.slice A9 P1.length d9) P1 P2 A10 P2.length d10 (fun _ => True) (fun _ => False) rfl rfl HR9.out HZ.out.2 (fun _ _ h => h) (fun _ h => h.elim) (fun _ _ => trivial) HB8T.out HB8T.out.size (by have h1 := HP12.out; have h2 := HPL.out; rw [← h1, List.length_append] at h2; omega) ?_; intro vy wy ho hb hgr hat; rw [HP12.out] at ho; obtain ⟨Ay, dy, huy⟩ := Kd.R_slice ho; subst huy; have RY := Aside0.mk ho; have BY := Aside0.mk hb; clear ho hb hgr hat))
    have HPX : P.length ≤ dp ∧ Kd.C (Kd.int .u32) w8 AP P.length P := (Kd.R_reads' R8.out).2
    have HPX' := Aside0.mk HPX
    clear HPX
    go_wp2_with (first | (go_at_call 28; refine (lathelaw05_alike.calls k AP dp P Ay dy P true wy (Kd.C_below HPX'.out.2 BY.out) HPX'.out.1 (Kd.R_reads' RY.out).2.2 (Kd.R_reads' RY.out).2.1 HAL.out).mono ?_; rintro e z1 ⟨rfl, hz1⟩; have Z1 := Aside0.mk hz1; clear hz1) | (go_at_call 29; refine (lathelaw05_sure.calls k true _ HSU.out).mono ?_; rintro e z2 ⟨rfl, hz2⟩; have Z2 := Aside0.mk hz2; clear hz2))
    have f8 := below_then B7.out B7.out.size B8.out
    have fy := below_then f8 f8.size BY.out
    have f1 := below_then fy fy.size Z1.out
    have f2 := below_then f1 f1.size Z2.out
    go_ret
    exact ⟨rfl, f2⟩
end Go.Proofs.Ytmfladkimmnccaa.Vcu
