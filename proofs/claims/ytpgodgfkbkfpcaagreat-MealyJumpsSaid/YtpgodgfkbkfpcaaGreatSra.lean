/- The table of transforms is sorted by name: what sort.Slice leaves there. No condition. -/
import Derived.Test.YtpgodgfkbkfpcaaGreatProg
import Derived.Shelf.SlSortFuncK.WholeK
import Derived.Ground.GgsProg
import Derived.Below
import Derived.Deep.QuietTactic
import Derived.BigQuiet
import Derived.Tactics
import Derived.KernelRfl
import Derived.WalkKit
import Derived.ProofKit
set_option linter.unusedVariables false
set_option linter.unusedSimpArgs false
namespace Go.Proofs
open Go.Shelf Go.RowKit Go.Lib Go.Sort
def Tryz.sv6_ren : Go.Shelf.Ren := ⟨fun | 6 => 209 | 10 => 217 | 11 => 218 | 12 => 219 | 13 => 220 | 14 => 221 | 24 => 235 | 25 => 236 | 26 => 237 | 27 => 238 | 28 => 239 | 29 => 240 | 30 => 241 | 31 => 242 | 32 => 243 | 33 => 244 | 34 => 249 | 35 => 250 | 36 => 251 | 37 => 252 | 38 => 253 | 39 => 254 | n => n, fun | 20 => 20 | 26 => 190 | 35 => 272 | 0 => 0 | 37 => 274 | 3 => 3 | 41 => 236 | 44 => 279 | 49 => 80 | 51 => 226 | 4 => 4 | 54 => 287 | 53 => 286 | 58 => 175 | 5 => 5 | 9 => 9 | 60 => 293 | 64 => 297 | 66 => 299 | 67 => 144 | 17 => 17 | 32 => 269 | 33 => 270 | 82 => 314 | 12 => 12 | 75 => 307 | 76 => 308 | 77 => 309 | 78 => 310 | 79 => 311 | 80 => 312 | n => n, fun | n => n⟩
theorem Tryz.sv6 : Go.Proofs.LaysGg.n6 Tryz.prog Tryz.sv6_ren := {
  mixed := by kernel_rfl
  f6 := Tryz.func209.trans (congrArg some (by kernel_rfl))
  f10 := Tryz.func217.trans (congrArg some (by kernel_rfl))
  f11 := Tryz.func218.trans (congrArg some (by kernel_rfl))
  f12 := Tryz.func219.trans (congrArg some (by kernel_rfl))
  f13 := Tryz.func220.trans (congrArg some (by kernel_rfl))
  f14 := Tryz.func221.trans (congrArg some (by kernel_rfl))
  f24 := Tryz.func235.trans (congrArg some (by kernel_rfl))
  f25 := Tryz.func236.trans (congrArg some (by kernel_rfl))
  f26 := Tryz.func237.trans (congrArg some (by kernel_rfl))
  f27 := Tryz.func238.trans (congrArg some (by kernel_rfl))
  f28 := Tryz.func239.trans (congrArg some (by kernel_rfl))
  f29 := Tryz.func240.trans (congrArg some (by kernel_rfl))
  f30 := Tryz.func241.trans (congrArg some (by kernel_rfl))
  f31 := Tryz.func242.trans (congrArg some (by kernel_rfl))
  f32 := Tryz.func243.trans (congrArg some (by kernel_rfl))
  f33 := Tryz.func244.trans (congrArg some (by kernel_rfl))
  f34 := Tryz.func249.trans (congrArg some (by kernel_rfl))
  f35 := Tryz.func250.trans (congrArg some (by kernel_rfl))
  f36 := Tryz.func251.trans (congrArg some (by kernel_rfl))
  f37 := Tryz.func252.trans (congrArg some (by kernel_rfl))
  f38 := Tryz.func253.trans (congrArg some (by kernel_rfl))
  f39 := Tryz.func254.trans (congrArg some (by kernel_rfl))
  t0 := Tryz.underlying0
  a0 := Tryz.isAgg0
  z0 := Tryz.sizeOf0
  v0 := Tryz.zeroValue0
  i0 := by kernel_rfl
  t3 := Tryz.underlying3
  a3 := Tryz.isAgg3
  z3 := Tryz.sizeOf3
  v3 := Tryz.zeroValue3
  i3 := by kernel_rfl
  t4 := Tryz.underlying4
  a4 := Tryz.isAgg4
  z4 := Tryz.sizeOf4
  v4 := Tryz.zeroValue4
  i4 := by kernel_rfl
  t5 := Tryz.underlying5
  a5 := Tryz.isAgg5
  z5 := Tryz.sizeOf5
  v5 := Tryz.zeroValue5
  i5 := by kernel_rfl
  t9 := Tryz.underlying9
  a9 := Tryz.isAgg9
  z9 := Tryz.sizeOf9
  v9 := Tryz.zeroValue9
  i9 := by kernel_rfl
  t12 := Tryz.underlying12
  a12 := Tryz.isAgg12
  z12 := Tryz.sizeOf12
  v12 := Tryz.zeroValue12
  i12 := by kernel_rfl
  t17 := Tryz.underlying17
  a17 := Tryz.isAgg17
  z17 := Tryz.sizeOf17
  v17 := Tryz.zeroValue17
  i17 := by kernel_rfl
  t20 := Tryz.underlying20
  a20 := Tryz.isAgg20
  z20 := Tryz.sizeOf20
  v20 := Tryz.zeroValue20
  i20 := by kernel_rfl
  t26 := Tryz.underlying190
  a26 := Tryz.isAgg190
  z26 := Tryz.sizeOf190
  v26 := Tryz.zeroValue190
  i26 := by kernel_rfl
  t32 := Tryz.underlying269
  a32 := Tryz.isAgg269
  z32 := Tryz.sizeOf269
  v32 := Tryz.zeroValue269
  i32 := by kernel_rfl
  t33 := Tryz.underlying270
  a33 := Tryz.isAgg270
  z33 := Tryz.sizeOf270
  v33 := Tryz.zeroValue270
  i33 := by kernel_rfl
  t35 := Tryz.underlying272
  a35 := Tryz.isAgg272
  z35 := Tryz.sizeOf272
  v35 := Tryz.zeroValue272
  i35 := by kernel_rfl
  t37 := Tryz.underlying274
  a37 := Tryz.isAgg274
  z37 := Tryz.sizeOf274
  v37 := Tryz.zeroValue274
  i37 := by kernel_rfl
  t41 := Tryz.underlying236
  a41 := Tryz.isAgg236
  z41 := Tryz.sizeOf236
  v41 := Tryz.zeroValue236
  i41 := by kernel_rfl
  t44 := Tryz.underlying279
  a44 := Tryz.isAgg279
  z44 := Tryz.sizeOf279
  v44 := Tryz.zeroValue279
  i44 := by kernel_rfl
  t49 := Tryz.underlying80
  a49 := Tryz.isAgg80
  z49 := Tryz.sizeOf80
  v49 := Tryz.zeroValue80
  i49 := by kernel_rfl
  t51 := Tryz.underlying226
  a51 := Tryz.isAgg226
  z51 := Tryz.sizeOf226
  v51 := Tryz.zeroValue226
  i51 := by kernel_rfl
  t53 := Tryz.underlying286
  a53 := Tryz.isAgg286
  z53 := Tryz.sizeOf286
  v53 := Tryz.zeroValue286
  i53 := by kernel_rfl
  t54 := Tryz.underlying287
  a54 := Tryz.isAgg287
  z54 := Tryz.sizeOf287
  v54 := Tryz.zeroValue287
  i54 := by kernel_rfl
  t58 := Tryz.underlying175
  a58 := Tryz.isAgg175
  z58 := Tryz.sizeOf175
  v58 := Tryz.zeroValue175
  i58 := by kernel_rfl
  t60 := Tryz.underlying293
  a60 := Tryz.isAgg293
  z60 := Tryz.sizeOf293
  v60 := Tryz.zeroValue293
  i60 := by kernel_rfl
  t64 := Tryz.underlying297
  a64 := Tryz.isAgg297
  z64 := Tryz.sizeOf297
  v64 := Tryz.zeroValue297
  i64 := by kernel_rfl
  t66 := Tryz.underlying299
  a66 := Tryz.isAgg299
  z66 := Tryz.sizeOf299
  v66 := Tryz.zeroValue299
  i66 := by kernel_rfl
  t67 := Tryz.underlying144
  a67 := Tryz.isAgg144
  z67 := Tryz.sizeOf144
  v67 := Tryz.zeroValue144
  i67 := by kernel_rfl
  t75 := Tryz.underlying307
  a75 := Tryz.isAgg307
  z75 := Tryz.sizeOf307
  v75 := Tryz.zeroValue307
  i75 := by kernel_rfl
  t76 := Tryz.underlying308
  a76 := Tryz.isAgg308
  z76 := Tryz.sizeOf308
  v76 := Tryz.zeroValue308
  i76 := by kernel_rfl
  t77 := Tryz.underlying309
  a77 := Tryz.isAgg309
  z77 := Tryz.sizeOf309
  v77 := Tryz.zeroValue309
  i77 := by kernel_rfl
  t78 := Tryz.underlying310
  a78 := Tryz.isAgg310
  z78 := Tryz.sizeOf310
  v78 := Tryz.zeroValue310
  i78 := by kernel_rfl
  t79 := Tryz.underlying311
  a79 := Tryz.isAgg311
  z79 := Tryz.sizeOf311
  v79 := Tryz.zeroValue311
  i79 := by kernel_rfl
  t80 := Tryz.underlying312
  a80 := Tryz.isAgg312
  z80 := Tryz.sizeOf312
  v80 := Tryz.zeroValue312
  i80 := by kernel_rfl
  t82 := Tryz.underlying314
  a82 := Tryz.isAgg314
  z82 := Tryz.sizeOf314
  v82 := Tryz.zeroValue314
  i82 := by kernel_rfl }
namespace YtpgodgfkbkfpcaaGreat.Sra
/-- A row of the table: its name, its number, where its arguments lie, how many, for how many there is room, its two flags. -/
structure Rw where
  name : ByteArray
  op : Int
  ap : Option Addr
  al : Nat
  ac : Nat
  dots : Bool
  star : Bool
instance : Inhabited Rw := ⟨⟨⟨#[]⟩, 0, none, 0, 0, false, false⟩⟩
def enc (r : Rw) : List Value := [.string r.name, .int .i64 r.op, .slice r.ap r.al r.ac, .bool r.dots, .bool r.star]
/-- By name. -/
def lt (r s : Rw) : Bool := Op.bytesLess r.name.toList s.name.toList
theorem swo_lt : SWO lt where
  irrefl x := by simp [lt, bytesLess_eq, List.lt_irrefl]
  trans x y z h1 h2 := by simp only [lt, bytesLess_eq, decide_eq_true_eq] at *; exact List.lt_trans h1 h2
  ntrans x y z h1 h2 := by
    simp only [lt, bytesLess_eq, decide_eq_false_iff_not, List.not_lt] at *
    exact List.le_trans h2 h1
set_option maxHeartbeats 400000 in
set_option maxRecDepth 100000 in
theorem less (blk c Bs : Nat) (W : World) (G : Nat → ByteArray) (hs : W.cell? ⟨Bs, 0, none⟩ = some (.slice (some ⟨blk, 0, none⟩) 42 c))
    (hc : ∀ t, t < 42 → W.cell? ⟨blk, t * 5, none⟩ = some (.string (G t))) (i j : Nat) (hi : i < 42) (hj : j < 42) :
    Calls Tryz.prog 210 #[.int .i64 i, .int .i64 j, .pointer (some ⟨Bs, 0, none⟩)] W fun e w' => e = .returned (.bool (Op.bytesLess (G i).toList (G j).toList)) ∧ ∃ q, w' = W.drewN q := by
  have ci := hc i hi
  have cj := hc j hj
  clear hc
  generalize G i = x at ci ⊢
  generalize G j = y at cj ⊢
  go_enter Tryz.func210, Tryz.ntmps210
  go_wp2
  go_quiet (fail)
  go_wp2
  go_ret
  exact ⟨rfl, _, rfl⟩
noncomputable def tL : TypeInfo := (Tryz.prog.info? 240).get (by kernel_rfl)
noncomputable def tE : TypeInfo := (Tryz.prog.info? 207).get (by kernel_rfl)
theorem swK : Lib.swapperK 42 tE 25 = 9 := by
  have a : tE.hasPointers = true := by kernel_rfl
  have b : tE.bytes = 56 := by kernel_rfl
  simp [Lib.swapperK, a, b]
theorem sorted (blk c Bs : Nat) (d : Array Rw) (h42 : d.size = 42) (w : World) (hH : HoldsK enc 5 w blk 0 d) (hblk : blk < w.heap.size)
    (hBs : w.cell? ⟨Bs, 0, none⟩ = some (.slice (some ⟨blk, 0, none⟩) 42 c)) (hB2 : Bs ≠ blk) :
    Calls Tryz.prog 209 #[.iface 240 (.slice (some ⟨blk, 0, none⟩) 42 c), .func (.func 210) #[] #[.pointer (some ⟨Bs, 0, none⟩)]] w fun e w' =>
      e = .returned (.tuple #[]) ∧ ∃ d', PermIn 0 42 d d' ∧ HoldsK enc 5 w' blk 0 d' ∧ w'.os = w.os ∧ w'.tape = w.tape ∧ w'.output = w.output ∧ w.heap.size ≤ w'.heap.size ∧ ∀ k, k < w.heap.size → k ≠ blk → w'.heap[k]? = w.heap[k]? := by
  have hB1 : Bs < w.heap.size := World.block_lt_of_cell? w _ hBs
  have hless : LessReadsK Tryz.prog 210 #[.pointer (some ⟨Bs, 0, none⟩)] enc 5 lt blk 0 d.size w := by
    intro m os dk hs i j hi hj
    have e : sortWorldK enc 5 w blk 0 m dk os = putRowK enc 5 (grow (Sort.ahead w m) os) blk 0 dk := by
      unfold sortWorldK; rw [putRowK_grow _ _ (Sort.ahead w m) _ blk 0 _ hblk]
    have hHg : HoldsK enc 5 (grow (Sort.ahead w m) os) blk 0 d := holdsK_grow _ _ _ _ blk 0 d hblk (holdsK_ahead _ _ _ _ _ _ _ hH)
    refine less blk c Bs _ (fun t => dk[t]!.name) ?_ (fun t ht => ?_) i j (by omega) (by omega)
    · rw [e, cell?_putRowK_other _ _ _ blk 0 dk _ (by exact hB2), cell?_grow _ _ _ (by exact hB1)]; exact hBs
    · rw [e]
      have := ((holdsK_putRowK _ _ _ blk 0 d dk hHg hs).cell (i := t) (c := 0) (by omega) (by omega)).1
      rw [Nat.zero_add, Nat.add_zero] at this
      exact this
  have := Any.sort_Slice_cells_sorted Tryz.sv6 240 207 tL tE (by kernel_rfl) (by kernel_rfl) (by kernel_rfl) (by kernel_rfl) 25 (fun _ => by kernel_rfl) enc 5 (fun _ => rfl) (by kernel_rfl) (fun _ => by kernel_rfl)
    (fun x v hv => by simp [enc] at hv; rcases hv with rfl | rfl | rfl | rfl | rfl <;> rfl) lt swo_lt 210 _
    (enters_of Tryz.func210 (by kernel_rfl) rfl) blk 0 c d (by omega) (by omega) 234 (by rw [h42, swK]; kernel_rfl) false
    (fun args W => run_callFunc_extern Tryz.func234 (by kernel_rfl) (by kernel_rfl) (by kernel_rfl) (e := Extern.ReflectliteSwapper.swap false) (by kernel_rfl) args W) w hless hH hblk
  rw [h42] at this
  refine this.mono ?_
  rintro e w' ⟨he, d', n, os, hp, -, hw⟩
  subst hw
  have hs : (putRowK enc 5 (Sort.ahead w n) blk 0 d').heap.size = w.heap.size := by simp [putRowK, putRow, mapBlock]
  refine ⟨he, d', hp, holdsK_grow _ _ _ _ blk 0 _ (by rw [hs]; exact hblk) (holdsK_putRowK _ _ _ blk 0 d d' (holdsK_ahead _ _ _ _ _ _ _ hH) hp.1), rfl, rfl, rfl, ?_, fun k hk hkb => ?_⟩
  · rw [size_grow, hs]; omega
  · have e1 : (grow (putRowK enc 5 (Sort.ahead w n) blk 0 d') os).heap[k]? = (putRowK enc 5 (Sort.ahead w n) blk 0 d').heap[k]? := by
      simp only [grow]
      rw [Array.getElem?_append_left (by rw [hs]; exact hk)]
    rw [e1]
    simp only [putRowK, putRow, mapBlock]
    rw [Array.getElem?_modify, if_neg (by intro e; exact hkb e.symm)]
    rfl
end YtpgodgfkbkfpcaaGreat.Sra
end Go.Proofs
