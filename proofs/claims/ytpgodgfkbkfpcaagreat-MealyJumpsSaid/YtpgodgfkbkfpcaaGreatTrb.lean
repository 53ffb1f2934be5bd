/- Rows of the table, as values in slots. No condition. -/
import Derived.Test.YtpgodgfkbkfpcaaGreatRio
import Derived.Test.YtpgodgfkbkfpcaaGreatTab
import Derived.Test.YtpgodgfkbkfpcaaGreatSra
set_option linter.unusedVariables false
set_option linter.unusedSimpArgs false
namespace Go.Proofs.YtpgodgfkbkfpcaaGreat.Trb
open Go.Shelf Go.RowKit Go.Proofs.YtpgodgfkbkfpcaaGreat.Sra
/-- An argument's cells. -/
def av (nm : ByteArray) (sort : Int) (tx : ByteArray) (fits : Value) (lo hi : Int) : Array Value := #[.string nm, .int .i64 sort, .string tx, fits, .int .i64 lo, .int .i64 hi]
/-- The arguments of trace: decay, nesterov. -/
def trc : List Value := [.agg (av ⟨#[100, 101, 99, 97, 121]⟩ 0 ⟨#[]⟩ (.func (.func 203) #[] #[]) 0 0), .agg (av ⟨#[110, 101, 115, 116, 101, 114, 111, 118]⟩ 2 ⟨#[102, 97, 108, 115, 101]⟩ .nilFunc 0 0)]
def flatV (l : List Value) : Array Value := (l.flatMap fun v => v.cells.toList).toArray
theorem heap_on {w w' : World} {g : Nat} {o : Obj} (h : w.heap[g]? = some o) (hB : Below w.heap.size w w') : w'.heap[g]? = some o := by
  have hg : g < w.heap.size := (Array.getElem?_eq_some_iff.1 h).1
  rw [hB.block g hg]; exact h
/-- What must be known of a row: identity takes no arguments; trace takes its two. -/
def Fine (r : Rw) (w : World) : Prop := (r.op = 1 → r.ap = none ∧ r.al = 0 ∧ r.ac = 0) ∧ (r.op = 7 → ∃ g, r.ap = some ⟨g, 0, none⟩ ∧ r.al = 2 ∧ r.ac = 2 ∧ w.heap[g]? = some (.cells (flatV trc) 244 (0, 0)))
theorem Fine.on {r : Rw} {w w' : World} (h : Fine r w) (hB : Below w.heap.size w w') : Fine r w' :=
  ⟨h.1, fun e => by obtain ⟨g, h1, h2, h3, h4⟩ := h.2 e; exact ⟨g, h1, h2, h3, heap_on h4 hB⟩⟩
theorem fine_other {r : Rw} {w : World} (h1 : r.op ≠ 1) (h7 : r.op ≠ 7) : Fine r w := ⟨fun e => absurd e h1, fun e => absurd e h7⟩
/-- A row's known part. -/
def key (r : Rw) : ByteArray × Int × Bool × Bool := (r.name, r.op, r.dots, r.star)
def rowV (r : Rw) : Value := .agg #[.string r.name, .int .i64 r.op, .slice r.ap r.al r.ac, .bool r.dots, .bool r.star]
/-- What a slot holds. -/
inductive Kd where
  | any
  | val (v : Value)
  | sl (k : Nat)
  | full (l : List Value)
  | mom
  | row (nm : ByteArray) (op : Int) (dots star : Bool)
  | rows (L : List (ByteArray × Int × Bool × Bool))
  | ptr (B : Nat)
  | grown (B : Nat) (L : List (ByteArray × Int × Bool × Bool))
def Kd.holds : Kd → Value → World → Prop
  | .any, _, _ => True
  | .val u, v, _ => v = u
  | .sl k, v, _ => ∃ g c, v = .slice (some ⟨g, 0, none⟩) k c
  | .full l, v, w => ∃ g, v = .slice (some ⟨g, 0, none⟩) l.length l.length ∧ w.heap[g]? = some (.cells (flatV l) 244 (0, 0))
  | .mom, v, w => ∃ g cs, v = .slice (some ⟨g, 0, none⟩) 4 4 ∧ w.heap[g]? = some (.cells cs 244 (0, 0)) ∧ cs.size = 24 ∧ cs.all (·.oneCell') = true
  | .row nm op dots star, v, w => ∃ p l c, v = rowV ⟨nm, op, p, l, c, dots, star⟩ ∧ Fine ⟨nm, op, p, l, c, dots, star⟩ w
  | .rows L, v, w => ∃ (g : Nat) (d : List Rw), v = .slice (some ⟨g, 0, none⟩) L.length L.length ∧ w.heap[g]? = some (.cells (flatV (d.map rowV)) 207 (0, 0)) ∧ d.map key = L ∧ ∀ r ∈ d, Fine r w
  | .grown B L, v, w => ∃ (g cap : Nat) (cur : Array Value) (d : List Rw), v = .slice (some ⟨g, 0, none⟩) L.length cap ∧ B ≤ g ∧ w.heap[g]? = some (.cells cur 207 (0, 0)) ∧ L.length ≤ cap ∧ cur.size = cap * 5 ∧ cur.toList.take (L.length * 5) = (flatV (d.map rowV)).toList ∧ d.map key = L ∧ ∀ r ∈ d, Fine r w
  | .ptr B, v, w => ∃ g, v = .pointer (some ⟨g, 0, none⟩) ∧ B ≤ g ∧ w.heap[g]? = some (.cells #[.slice none 0 0] 240 (0, 0))
theorem Kd.on {k : Kd} {v : Value} {w w' : World} (h : k.holds v w) (hB : Below w.heap.size w w') : k.holds v w' := by
  cases k with
  | any => trivial
  | val u => exact h
  | sl k => exact h
  | full l => obtain ⟨g, h1, h2⟩ := h; exact ⟨g, h1, heap_on h2 hB⟩
  | mom => obtain ⟨g, cs, h1, h2, h3, h4⟩ := h; exact ⟨g, cs, h1, heap_on h2 hB, h3, h4⟩
  | row nm op dots star => obtain ⟨p, l, c, h1, h2⟩ := h; exact ⟨p, l, c, h1, h2.on hB⟩
  | rows L => obtain ⟨g, d, h1, h2, h3, h4⟩ := h; exact ⟨g, d, h1, heap_on h2 hB, h3, fun r hr => (h4 r hr).on hB⟩
  | grown B L => obtain ⟨g, cap, cur, d, h1, h2, h3, h4, h5, h6, h7, h8⟩ := h; exact ⟨g, cap, cur, d, h1, h2, heap_on h3 hB, h4, h5, h6, h7, fun r hr => (h8 r hr).on hB⟩
  | ptr B => obtain ⟨g, h1, h0, h2⟩ := h; exact ⟨g, h1, h0, heap_on h2 hB⟩
/-- A function of the program is entered. -/
theorem ent199 : ∀ vs w, (callFunc 199 vs).run Tryz.prog w = .ok (.enter 199 vs) w := enters_of Tryz.func199 (by kernel_rfl) rfl
theorem ent204 : ∀ vs w, (callFunc 204 vs).run Tryz.prog w = .ok (.enter 204 vs) w := enters_of Tryz.func204 (by kernel_rfl) rfl
theorem ent206 : ∀ vs w, (callFunc 206 vs).run Tryz.prog w = .ok (.enter 206 vs) w := enters_of Tryz.func206 (by kernel_rfl) rfl
theorem ent207 : ∀ vs w, (callFunc 207 vs).run Tryz.prog w = .ok (.enter 207 vs) w := enters_of Tryz.func207 (by kernel_rfl) rfl
theorem ent208 : ∀ vs w, (callFunc 208 vs).run Tryz.prog w = .ok (.enter 208 vs) w := enters_of Tryz.func208 (by kernel_rfl) rfl
/-- The region's list of kinds; which slot holds what, whose operations these are. -/
def T (KL : List Kd) (t : Nat) (v : Value) (w : World) : Prop := ((KL[t]?).getD .any).holds v w
theorem T.on {KL : List Kd} {t : Nat} {v : Value} {w w' : World} (h : T KL t v w) (hB : Below w.heap.size w w') : T KL t v w' := Kd.on h hB
def Step (ops : Array Oper) (KL : List Kd) (n N : Nat) (D : Nat → Nat) (a0 : Act) (w0 : World) (i : Nat) : Prop :=
  ∀ (Q : Exit → Act → World → Prop) (a : Act) (w : World), Rin.Reach a0 w0 N n D a w → (∀ k, k < n → ((ops[i]?).map fun o => o.after.any fun e => e.on == k && Region.binds .any e) = some true → T KL (D k) (a.eval (.tmp (D k))) w) →
    wpOp Tryz.prog ops Q i (fun a' w' => ∃ v, a' = a.put (some (D i)) v ∧ T KL (D i) v w' ∧ Below w.heap.size w w') a w
noncomputable def tA : TypeInfo := (Tryz.prog.info? 244).get (by kernel_rfl)
def zE : Value := .agg #[.string ⟨#[]⟩, .int .i64 0, .slice none 0 0, .bool false, .bool false]
def zA : Value := .agg #[.string ⟨#[]⟩, .int .i64 0, .string ⟨#[]⟩, .nilFunc, .int .i64 0, .int .i64 0]
noncomputable def tL : TypeInfo := (Tryz.prog.info? 240).get (by kernel_rfl)
theorem alloc240 (w : World) : (Instr.alloc 240 true (.tuple #[])).run Tryz.prog w = .ok (.pointer (some ⟨w.heap.size, 0, none⟩)) (w.alloc (.cells #[.slice none 0 0] 240)) := by
  have h1 : Tryz.prog.info? 240 = some tL := by kernel_rfl
  have h2 : tL.zero = some (.slice none 0 0) := by kernel_rfl
  simp [Instr.alloc, zeroValue, typeInfo, h1, h2, newVar, newRow, Value.cells]
theorem below_alloc (w : World) (o : Obj) : Below w.heap.size w (w.alloc o) := (Below.refl _ _).alloc (Nat.le_refl _) _
end Go.Proofs.YtpgodgfkbkfpcaaGreat.Trb
