/- What vector.kernel answers at every operation, and what the function values that it answers do. No condition. -/
import Derived.Test.YtmfladkimmnccaaSur
set_option linter.unusedVariables false
set_option linter.unusedSimpArgs false
namespace Go.Proofs.Ytmfladkimmnccaa.Ker
open Go.RowKit Lathe Go.Proofs.YtmfladkimmnccaaW.PrintWords Go.Proofs.YtmfladkimmnccaaW.PrintMore Go.Proofs.YtmfladkimmnccaaW.PrintLast Go.Proofs.Ytmfladkimmnccaa.Flo Go.Proofs.Ytmfladkimmnccaa.Sur

def pe (a : Int) : Int := wrap64 (Go.bits .and .u32 (a / 8388608) 255)
def pf (a : Int) : Int := wrap64 (Go.bits .and .u32 a 8388607)
theorem parts (a : Int) (w : World) : Calls Try.prog 141 #[.int .u32 a] w fun e w' => e = .returned (.tuple #[.bool ((Go.bits .and .u32 a 2147483648) != 0), .int .i64 (pe a), .int .i64 (pf a)]) ∧ w = w' := by
  go_enter Try.func141, Try.ntmps141
  go_wp2
  go_ret3
  exact ⟨rfl, rfl⟩
def cls (a : Int) : Int := if pe a = 0 then (if pf a = 0 then 1 else 2) else if pe a < 255 then 3 else if pf a = 0 then 4 else 5
theorem class_ (a : Int) (w : World) : Calls Try.prog 126 #[.int .u32 a] w fun e w' => e = .returned (.int .i64 (cls a)) ∧ w = w' := by
  unfold cls
  generalize he : pe a = x
  generalize hf : pf a = y
  have key : Calls Try.prog 141 #[.int .u32 a] w fun e w' => e = .returned (.tuple #[.bool ((Go.bits .and .u32 a 2147483648) != 0), .int .i64 x, .int .i64 y]) ∧ w = w' := by
    rw [← he, ← hf]; exact parts a w
  by_cases c1 : x = 0
  · by_cases c2 : y = 0
    · subst c1; subst c2
      go_enter Try.func126, Try.ntmps126
      go_wp2_with (go_at_call 141; refine key.mono ?_; rintro e w' ⟨rfl, rfl⟩)
      go_ret
      exact ⟨rfl, rfl⟩
    · subst c1
      rw [if_pos rfl, if_neg c2]
      have d2 : (y == 0) = false := beq_eq_false_iff_ne.mpr c2
      go_enter Try.func126, Try.ntmps126
      go_wp2_with (go_at_call 141; refine key.mono ?_; rintro e w' ⟨rfl, rfl⟩)
      go_ret
      exact ⟨rfl, rfl⟩
  · have d1 : (x == 0) = false := beq_eq_false_iff_ne.mpr c1
    rw [if_neg c1]
    by_cases c2 : x < 255
    · rw [if_pos c2]
      have d2 : decide (x < 255) = true := decide_eq_true c2
      go_enter Try.func126, Try.ntmps126
      go_wp2_with (go_at_call 141; refine key.mono ?_; rintro e w' ⟨rfl, rfl⟩)
      go_ret
      exact ⟨rfl, rfl⟩
    · rw [if_neg c2]
      have d2 : decide (x < 255) = false := decide_eq_false c2
      by_cases c3 : y = 0
      · subst c3
        rw [if_pos rfl]
        go_enter Try.func126, Try.ntmps126
        go_wp2_with (go_at_call 141; refine key.mono ?_; rintro e w' ⟨rfl, rfl⟩)
        go_ret
        exact ⟨rfl, rfl⟩
      · rw [if_neg c3]
        have d3 : (y == 0) = false := beq_eq_false_iff_ne.mpr c3
        go_enter Try.func126, Try.ntmps126
        go_wp2_with (go_at_call 141; refine key.mono ?_; rintro e w' ⟨rfl, rfl⟩)
        go_ret
        exact ⟨rfl, rfl⟩
def can (a : Int) : Int := if cls a = 5 then 2143289344 else a
theorem canon (a : Int) (w : World) : Calls Try.prog 80 #[.int .u32 a] w fun e w' => e = .returned (.int .u32 (can a)) ∧ w = w' := by
  unfold can
  have key := class_ a w
  generalize cls a = x at key ⊢
  by_cases c : x = 5
  · subst c
    go_enter Try.func80, Try.ntmps80
    go_wp2_with (go_at_call 126; refine key.mono ?_; rintro e w' ⟨rfl, rfl⟩)
    go_ret
    exact ⟨rfl, rfl⟩
  · rw [if_neg c]
    have d : (x == 5) = false := beq_eq_false_iff_ne.mpr c
    go_enter Try.func80, Try.ntmps80
    go_wp2_with (go_at_call 126; refine key.mono ?_; rintro e w' ⟨rfl, rfl⟩)
    go_ret
    exact ⟨rfl, rfl⟩
def fin (a : Int) : Bool := (Go.bits .and .u32 a 2139095040) != 2139095040
theorem finite (a : Int) (w : World) : Calls Try.prog 86 #[.int .u32 a] w fun e w' => e = .returned (.bool (fin a)) ∧ w = w' := by
  go_enter Try.func86, Try.ntmps86
  go_wp2
  go_ret
  exact ⟨rfl, rfl⟩
def flg (b : Bool) : Int := if b = true then 1065353216 else 0
theorem flag (b : Bool) (w : World) : Calls Try.prog 104 #[.bool b] w fun e w' => e = .returned (.int .u32 (flg b)) ∧ w = w' := by
  cases b
  · go_enter Try.func104, Try.ntmps104
    go_wp2
    go_ret
    exact ⟨rfl, rfl⟩
  · go_enter Try.func104, Try.ntmps104
    go_wp2
    go_ret
    exact ⟨rfl, rfl⟩
theorem finflag (a : Int) (w : World) : Calls Try.prog 103 #[.int .u32 a] w fun e w' => e = .returned (.int .u32 (flg (fin a))) ∧ w = w' := by
  go_enter Try.func103, Try.ntmps103
  go_wp2_with (first | (go_at_call 86; refine (finite _ _).mono ?_; rintro e w' ⟨rfl, rfl⟩) | (go_at_call 104; refine (flag _ _).mono ?_; rintro e w' ⟨rfl, rfl⟩))
  go_ret
  exact ⟨rfl, rfl⟩
theorem lessflag (a b : Int) (w : World) : Calls Try.prog 106 #[.int .u32 a, .int .u32 b] w fun e w' => e = .returned (.int .u32 (flg (flt a.toNat b.toNat))) ∧ w = w' := by
  go_enter Try.func106, Try.ntmps106
  go_wp2_with (first | (go_at_call 107; refine (Less _ _ _).mono ?_; rintro e w' ⟨rfl, rfl⟩) | (go_at_call 104; refine (flag _ _).mono ?_; rintro e w' ⟨rfl, rfl⟩))
  go_ret
  exact ⟨rfl, rfl⟩
def doF (op x y z : Int) : Int := if op = 3 then can x else if op = 11 then (fsqrt x.toNat : Nat) else if op = 12 then (fneg x.toNat : Nat) else if op = 13 then (tl (Go.bits .andNot .u32 x 2147483648).toNat : Nat) else if op = 14 then flg (fin x) else if op = 4 then (fadd x.toNat y.toNat : Nat) else if op = 5 then (fsub x.toNat y.toNat : Nat) else if op = 6 then (fmul x.toNat y.toNat : Nat) else if op = 7 then (fdiv x.toNat y.toNat : Nat) else if op = 8 then (fmin x.toNat y.toNat : Nat) else if op = 9 then (fmax x.toNat y.toNat : Nat) else if op = 10 then flg (flt x.toNat y.toNat) else (fsel x.toNat y.toNat z.toNat : Nat)
def ar (op : Int) : Nat := if op = 3 ∨ op = 11 ∨ op = 12 ∨ op = 13 ∨ op = 14 then 1 else if op = 4 ∨ op = 5 ∨ op = 6 ∨ op = 7 ∨ op = 8 ∨ op = 9 ∨ op = 10 then 2 else if op = 15 then 3 else 0
abbrev fv (n : Nat) : Value := .func (.func n) #[] #[]
/-- What a function value does in the worlds behind W0. -/
def Does (W0 : World) (n : Nat) (cap : Array Value) (op : Int) : Prop := ∀ (x y z : Int) (W : World), Below W0.heap.size W0 W → Calls Try.prog n (#[.agg #[.int .u32 x, .int .u32 y, .int .u32 z]] ++ cap) W fun e W' => e = .returned (.int .u32 (doF op x y z)) ∧ Below W.heap.size W W'
theorem mk3 (w : World) : Calls Try.prog 97 #[fv 80] w fun e w' => e = .returned (.func (.func 98) #[] #[.pointer (some ⟨w.heap.size, 0, none⟩)]) ∧ w.alloc (.cells #[fv 80] 96) = w' := by
  have hmf := hmf
  go_enter Try.func97, Try.ntmps97
  go_wp2
  go_ret
  exact ⟨rfl, rfl⟩
theorem kn3 (w : World) : Calls Try.prog 66 #[.int .i64 3] w fun e w' => e = .returned (.tuple #[.int .i64 1, .func (.func 98) #[] #[.pointer (some ⟨w.heap.size, 0, none⟩)]]) ∧ w.alloc (.cells #[fv 80] 96) = w' := by
  have hmf := hmf
  go_enter Try.func66, Try.ntmps66
  go_wp2_with (go_at_call 97; refine (mk3 _).mono ?_; rintro e w' ⟨rfl, rfl⟩)
  exact bodyPost_ret (v := .tuple #[.int .i64 1, .func (.func 98) #[] #[.pointer (some ⟨w.heap.size, 0, none⟩)]]) (by simp [results, Try.results66, go_sem]) rfl ⟨rfl, rfl⟩
theorem cl3 (g : Nat) (x y z : Int) (w : World) (hgn : g < w.heap.size) (hg : w.cell? ⟨g, 0, none⟩ = some (fv 80)) : Calls Try.prog 98 #[.agg #[.int .u32 x, .int .u32 y, .int .u32 z], .pointer (some ⟨g, 0, none⟩)] w fun e w' => e = .returned (.int .u32 (doF 3 x y z)) ∧ Below w.heap.size w w' := by
  have hs : doF 3 x y z = doF 3 x y z := rfl
  unfold doF at hs ⊢
  simp only [reduceIte, Int.reduceEq] at hs ⊢
  clear hs
  go_enter Try.func98, Try.ntmps98
  go_wp2_with (go_at_call 80; refine (canon _ _).mono ?_; rintro e w' ⟨rfl, rfl⟩)
  go_ret
  exact ⟨rfl, by repeat (first | exact Below.refl _ _ | apply pw_below_drewN | apply below_alloc)⟩
theorem mk11 (w : World) : Calls Try.prog 97 #[fv 71] w fun e w' => e = .returned (.func (.func 98) #[] #[.pointer (some ⟨w.heap.size, 0, none⟩)]) ∧ w.alloc (.cells #[fv 71] 96) = w' := by
  have hmf := hmf
  go_enter Try.func97, Try.ntmps97
  go_wp2
  go_ret
  exact ⟨rfl, rfl⟩
theorem kn11 (w : World) : Calls Try.prog 66 #[.int .i64 11] w fun e w' => e = .returned (.tuple #[.int .i64 1, .func (.func 98) #[] #[.pointer (some ⟨w.heap.size, 0, none⟩)]]) ∧ w.alloc (.cells #[fv 71] 96) = w' := by
  have hmf := hmf
  go_enter Try.func66, Try.ntmps66
  go_wp2_with (go_at_call 97; refine (mk11 _).mono ?_; rintro e w' ⟨rfl, rfl⟩)
  exact bodyPost_ret (v := .tuple #[.int .i64 1, .func (.func 98) #[] #[.pointer (some ⟨w.heap.size, 0, none⟩)]]) (by simp [results, Try.results66, go_sem]) rfl ⟨rfl, rfl⟩
theorem cl11 (g : Nat) (x y z : Int) (w : World) (hgn : g < w.heap.size) (hg : w.cell? ⟨g, 0, none⟩ = some (fv 71)) : Calls Try.prog 98 #[.agg #[.int .u32 x, .int .u32 y, .int .u32 z], .pointer (some ⟨g, 0, none⟩)] w fun e w' => e = .returned (.int .u32 (doF 11 x y z)) ∧ Below w.heap.size w w' := by
  have hs : doF 11 x y z = doF 11 x y z := rfl
  unfold doF at hs ⊢
  simp only [reduceIte, Int.reduceEq] at hs ⊢
  clear hs
  go_enter Try.func98, Try.ntmps98
  go_wp2_with (go_at_call 71; refine (Sqrt _ _).mono ?_; rintro e w' ⟨rfl, ⟨⟨nq, rfl⟩⟩⟩)
  go_ret
  exact ⟨rfl, by repeat (first | exact Below.refl _ _ | apply pw_below_drewN | apply below_alloc)⟩
theorem mk12 (w : World) : Calls Try.prog 97 #[fv 101] w fun e w' => e = .returned (.func (.func 98) #[] #[.pointer (some ⟨w.heap.size, 0, none⟩)]) ∧ w.alloc (.cells #[fv 101] 96) = w' := by
  have hmf := hmf
  go_enter Try.func97, Try.ntmps97
  go_wp2
  go_ret
  exact ⟨rfl, rfl⟩
theorem kn12 (w : World) : Calls Try.prog 66 #[.int .i64 12] w fun e w' => e = .returned (.tuple #[.int .i64 1, .func (.func 98) #[] #[.pointer (some ⟨w.heap.size, 0, none⟩)]]) ∧ w.alloc (.cells #[fv 101] 96) = w' := by
  have hmf := hmf
  go_enter Try.func66, Try.ntmps66
  go_wp2_with (go_at_call 97; refine (mk12 _).mono ?_; rintro e w' ⟨rfl, rfl⟩)
  exact bodyPost_ret (v := .tuple #[.int .i64 1, .func (.func 98) #[] #[.pointer (some ⟨w.heap.size, 0, none⟩)]]) (by simp [results, Try.results66, go_sem]) rfl ⟨rfl, rfl⟩
theorem cl12 (g : Nat) (x y z : Int) (w : World) (hgn : g < w.heap.size) (hg : w.cell? ⟨g, 0, none⟩ = some (fv 101)) : Calls Try.prog 98 #[.agg #[.int .u32 x, .int .u32 y, .int .u32 z], .pointer (some ⟨g, 0, none⟩)] w fun e w' => e = .returned (.int .u32 (doF 12 x y z)) ∧ Below w.heap.size w w' := by
  have hs : doF 12 x y z = doF 12 x y z := rfl
  unfold doF at hs ⊢
  simp only [reduceIte, Int.reduceEq] at hs ⊢
  clear hs
  go_enter Try.func98, Try.ntmps98
  go_wp2_with (go_at_call 101; refine (Neg _ _).mono ?_; rintro e w' ⟨rfl, rfl⟩)
  go_ret
  exact ⟨rfl, by repeat (first | exact Below.refl _ _ | apply pw_below_drewN | apply below_alloc)⟩
theorem mk13 (w : World) : Calls Try.prog 97 #[fv 102] w fun e w' => e = .returned (.func (.func 98) #[] #[.pointer (some ⟨w.heap.size, 0, none⟩)]) ∧ w.alloc (.cells #[fv 102] 96) = w' := by
  have hmf := hmf
  go_enter Try.func97, Try.ntmps97
  go_wp2
  go_ret
  exact ⟨rfl, rfl⟩
theorem kn13 (w : World) : Calls Try.prog 66 #[.int .i64 13] w fun e w' => e = .returned (.tuple #[.int .i64 1, .func (.func 98) #[] #[.pointer (some ⟨w.heap.size, 0, none⟩)]]) ∧ w.alloc (.cells #[fv 102] 96) = w' := by
  have hmf := hmf
  go_enter Try.func66, Try.ntmps66
  go_wp2_with (go_at_call 97; refine (mk13 _).mono ?_; rintro e w' ⟨rfl, rfl⟩)
  exact bodyPost_ret (v := .tuple #[.int .i64 1, .func (.func 98) #[] #[.pointer (some ⟨w.heap.size, 0, none⟩)]]) (by simp [results, Try.results66, go_sem]) rfl ⟨rfl, rfl⟩
theorem cl13 (g : Nat) (x y z : Int) (w : World) (hgn : g < w.heap.size) (hg : w.cell? ⟨g, 0, none⟩ = some (fv 102)) : Calls Try.prog 98 #[.agg #[.int .u32 x, .int .u32 y, .int .u32 z], .pointer (some ⟨g, 0, none⟩)] w fun e w' => e = .returned (.int .u32 (doF 13 x y z)) ∧ Below w.heap.size w w' := by
  have hs : doF 13 x y z = doF 13 x y z := rfl
  unfold doF at hs ⊢
  simp only [reduceIte, Int.reduceEq] at hs ⊢
  clear hs
  go_enter Try.func98, Try.ntmps98
  go_wp2_with (go_at_call 102; refine (Abs _ _).mono ?_; rintro e w' ⟨rfl, rfl⟩)
  go_ret
  exact ⟨rfl, by repeat (first | exact Below.refl _ _ | apply pw_below_drewN | apply below_alloc)⟩
theorem mk14 (w : World) : Calls Try.prog 97 #[fv 103] w fun e w' => e = .returned (.func (.func 98) #[] #[.pointer (some ⟨w.heap.size, 0, none⟩)]) ∧ w.alloc (.cells #[fv 103] 96) = w' := by
  have hmf := hmf
  go_enter Try.func97, Try.ntmps97
  go_wp2
  go_ret
  exact ⟨rfl, rfl⟩
theorem kn14 (w : World) : Calls Try.prog 66 #[.int .i64 14] w fun e w' => e = .returned (.tuple #[.int .i64 1, .func (.func 98) #[] #[.pointer (some ⟨w.heap.size, 0, none⟩)]]) ∧ w.alloc (.cells #[fv 103] 96) = w' := by
  have hmf := hmf
  go_enter Try.func66, Try.ntmps66
  go_wp2_with (go_at_call 97; refine (mk14 _).mono ?_; rintro e w' ⟨rfl, rfl⟩)
  exact bodyPost_ret (v := .tuple #[.int .i64 1, .func (.func 98) #[] #[.pointer (some ⟨w.heap.size, 0, none⟩)]]) (by simp [results, Try.results66, go_sem]) rfl ⟨rfl, rfl⟩
theorem cl14 (g : Nat) (x y z : Int) (w : World) (hgn : g < w.heap.size) (hg : w.cell? ⟨g, 0, none⟩ = some (fv 103)) : Calls Try.prog 98 #[.agg #[.int .u32 x, .int .u32 y, .int .u32 z], .pointer (some ⟨g, 0, none⟩)] w fun e w' => e = .returned (.int .u32 (doF 14 x y z)) ∧ Below w.heap.size w w' := by
  have hs : doF 14 x y z = doF 14 x y z := rfl
  unfold doF at hs ⊢
  simp only [reduceIte, Int.reduceEq] at hs ⊢
  clear hs
  go_enter Try.func98, Try.ntmps98
  go_wp2_with (go_at_call 103; refine (finflag _ _).mono ?_; rintro e w' ⟨rfl, rfl⟩)
  go_ret
  exact ⟨rfl, by repeat (first | exact Below.refl _ _ | apply pw_below_drewN | apply below_alloc)⟩
theorem mk4 (w : World) : Calls Try.prog 99 #[fv 70] w fun e w' => e = .returned (.func (.func 100) #[] #[.pointer (some ⟨w.heap.size, 0, none⟩)]) ∧ w.alloc (.cells #[fv 70] 95) = w' := by
  have hmf := hmf
  go_enter Try.func99, Try.ntmps99
  go_wp2
  go_ret
  exact ⟨rfl, rfl⟩
theorem kn4 (w : World) : Calls Try.prog 66 #[.int .i64 4] w fun e w' => e = .returned (.tuple #[.int .i64 2, .func (.func 100) #[] #[.pointer (some ⟨w.heap.size, 0, none⟩)]]) ∧ w.alloc (.cells #[fv 70] 95) = w' := by
  have hmf := hmf
  go_enter Try.func66, Try.ntmps66
  go_wp2_with (go_at_call 99; refine (mk4 _).mono ?_; rintro e w' ⟨rfl, rfl⟩)
  exact bodyPost_ret (v := .tuple #[.int .i64 2, .func (.func 100) #[] #[.pointer (some ⟨w.heap.size, 0, none⟩)]]) (by simp [results, Try.results66, go_sem]) rfl ⟨rfl, rfl⟩
theorem cl4 (g : Nat) (x y z : Int) (w : World) (hgn : g < w.heap.size) (hg : w.cell? ⟨g, 0, none⟩ = some (fv 70)) : Calls Try.prog 100 #[.agg #[.int .u32 x, .int .u32 y, .int .u32 z], .pointer (some ⟨g, 0, none⟩)] w fun e w' => e = .returned (.int .u32 (doF 4 x y z)) ∧ Below w.heap.size w w' := by
  have hs : doF 4 x y z = doF 4 x y z := rfl
  unfold doF at hs ⊢
  simp only [reduceIte, Int.reduceEq] at hs ⊢
  clear hs
  go_enter Try.func100, Try.ntmps100
  go_wp2_with (go_at_call 70; refine (Add _ _ _).mono ?_; rintro e w' ⟨rfl, ⟨⟨nq, rfl⟩⟩⟩)
  go_ret
  exact ⟨rfl, by repeat (first | exact Below.refl _ _ | apply pw_below_drewN | apply below_alloc)⟩
theorem mk5 (w : World) : Calls Try.prog 99 #[fv 105] w fun e w' => e = .returned (.func (.func 100) #[] #[.pointer (some ⟨w.heap.size, 0, none⟩)]) ∧ w.alloc (.cells #[fv 105] 95) = w' := by
  have hmf := hmf
  go_enter Try.func99, Try.ntmps99
  go_wp2
  go_ret
  exact ⟨rfl, rfl⟩
theorem kn5 (w : World) : Calls Try.prog 66 #[.int .i64 5] w fun e w' => e = .returned (.tuple #[.int .i64 2, .func (.func 100) #[] #[.pointer (some ⟨w.heap.size, 0, none⟩)]]) ∧ w.alloc (.cells #[fv 105] 95) = w' := by
  have hmf := hmf
  go_enter Try.func66, Try.ntmps66
  go_wp2_with (go_at_call 99; refine (mk5 _).mono ?_; rintro e w' ⟨rfl, rfl⟩)
  exact bodyPost_ret (v := .tuple #[.int .i64 2, .func (.func 100) #[] #[.pointer (some ⟨w.heap.size, 0, none⟩)]]) (by simp [results, Try.results66, go_sem]) rfl ⟨rfl, rfl⟩
theorem cl5 (g : Nat) (x y z : Int) (w : World) (hgn : g < w.heap.size) (hg : w.cell? ⟨g, 0, none⟩ = some (fv 105)) : Calls Try.prog 100 #[.agg #[.int .u32 x, .int .u32 y, .int .u32 z], .pointer (some ⟨g, 0, none⟩)] w fun e w' => e = .returned (.int .u32 (doF 5 x y z)) ∧ Below w.heap.size w w' := by
  have hs : doF 5 x y z = doF 5 x y z := rfl
  unfold doF at hs ⊢
  simp only [reduceIte, Int.reduceEq] at hs ⊢
  clear hs
  go_enter Try.func100, Try.ntmps100
  go_wp2_with (go_at_call 105; refine (Sub _ _ _).mono ?_; rintro e w' ⟨rfl, ⟨⟨nq, rfl⟩⟩⟩)
  go_ret
  exact ⟨rfl, by repeat (first | exact Below.refl _ _ | apply pw_below_drewN | apply below_alloc)⟩
theorem mk6 (w : World) : Calls Try.prog 99 #[fv 74] w fun e w' => e = .returned (.func (.func 100) #[] #[.pointer (some ⟨w.heap.size, 0, none⟩)]) ∧ w.alloc (.cells #[fv 74] 95) = w' := by
  have hmf := hmf
  go_enter Try.func99, Try.ntmps99
  go_wp2
  go_ret
  exact ⟨rfl, rfl⟩
theorem kn6 (w : World) : Calls Try.prog 66 #[.int .i64 6] w fun e w' => e = .returned (.tuple #[.int .i64 2, .func (.func 100) #[] #[.pointer (some ⟨w.heap.size, 0, none⟩)]]) ∧ w.alloc (.cells #[fv 74] 95) = w' := by
  have hmf := hmf
  go_enter Try.func66, Try.ntmps66
  go_wp2_with (go_at_call 99; refine (mk6 _).mono ?_; rintro e w' ⟨rfl, rfl⟩)
  exact bodyPost_ret (v := .tuple #[.int .i64 2, .func (.func 100) #[] #[.pointer (some ⟨w.heap.size, 0, none⟩)]]) (by simp [results, Try.results66, go_sem]) rfl ⟨rfl, rfl⟩
theorem cl6 (g : Nat) (x y z : Int) (w : World) (hgn : g < w.heap.size) (hg : w.cell? ⟨g, 0, none⟩ = some (fv 74)) : Calls Try.prog 100 #[.agg #[.int .u32 x, .int .u32 y, .int .u32 z], .pointer (some ⟨g, 0, none⟩)] w fun e w' => e = .returned (.int .u32 (doF 6 x y z)) ∧ Below w.heap.size w w' := by
  have hs : doF 6 x y z = doF 6 x y z := rfl
  unfold doF at hs ⊢
  simp only [reduceIte, Int.reduceEq] at hs ⊢
  clear hs
  go_enter Try.func100, Try.ntmps100
  go_wp2_with (go_at_call 74; refine (Mul _ _ _).mono ?_; rintro e w' ⟨rfl, ⟨⟨nq, rfl⟩⟩⟩)
  go_ret
  exact ⟨rfl, by repeat (first | exact Below.refl _ _ | apply pw_below_drewN | apply below_alloc)⟩
theorem mk7 (w : World) : Calls Try.prog 99 #[fv 76] w fun e w' => e = .returned (.func (.func 100) #[] #[.pointer (some ⟨w.heap.size, 0, none⟩)]) ∧ w.alloc (.cells #[fv 76] 95) = w' := by
  have hmf := hmf
  go_enter Try.func99, Try.ntmps99
  go_wp2
  go_ret
  exact ⟨rfl, rfl⟩
theorem kn7 (w : World) : Calls Try.prog 66 #[.int .i64 7] w fun e w' => e = .returned (.tuple #[.int .i64 2, .func (.func 100) #[] #[.pointer (some ⟨w.heap.size, 0, none⟩)]]) ∧ w.alloc (.cells #[fv 76] 95) = w' := by
  have hmf := hmf
  go_enter Try.func66, Try.ntmps66
  go_wp2_with (go_at_call 99; refine (mk7 _).mono ?_; rintro e w' ⟨rfl, rfl⟩)
  exact bodyPost_ret (v := .tuple #[.int .i64 2, .func (.func 100) #[] #[.pointer (some ⟨w.heap.size, 0, none⟩)]]) (by simp [results, Try.results66, go_sem]) rfl ⟨rfl, rfl⟩
theorem cl7 (g : Nat) (x y z : Int) (w : World) (hgn : g < w.heap.size) (hg : w.cell? ⟨g, 0, none⟩ = some (fv 76)) : Calls Try.prog 100 #[.agg #[.int .u32 x, .int .u32 y, .int .u32 z], .pointer (some ⟨g, 0, none⟩)] w fun e w' => e = .returned (.int .u32 (doF 7 x y z)) ∧ Below w.heap.size w w' := by
  have hs : doF 7 x y z = doF 7 x y z := rfl
  unfold doF at hs ⊢
  simp only [reduceIte, Int.reduceEq] at hs ⊢
  clear hs
  go_enter Try.func100, Try.ntmps100
  go_wp2_with (go_at_call 76; refine (Div _ _ _).mono ?_; rintro e w' ⟨rfl, ⟨⟨nq, rfl⟩⟩⟩)
  go_ret
  exact ⟨rfl, by repeat (first | exact Below.refl _ _ | apply pw_below_drewN | apply below_alloc)⟩
theorem mk8 (w : World) : Calls Try.prog 99 #[fv 82] w fun e w' => e = .returned (.func (.func 100) #[] #[.pointer (some ⟨w.heap.size, 0, none⟩)]) ∧ w.alloc (.cells #[fv 82] 95) = w' := by
  have hmf := hmf
  go_enter Try.func99, Try.ntmps99
  go_wp2
  go_ret
  exact ⟨rfl, rfl⟩
theorem kn8 (w : World) : Calls Try.prog 66 #[.int .i64 8] w fun e w' => e = .returned (.tuple #[.int .i64 2, .func (.func 100) #[] #[.pointer (some ⟨w.heap.size, 0, none⟩)]]) ∧ w.alloc (.cells #[fv 82] 95) = w' := by
  have hmf := hmf
  go_enter Try.func66, Try.ntmps66
  go_wp2_with (go_at_call 99; refine (mk8 _).mono ?_; rintro e w' ⟨rfl, rfl⟩)
  exact bodyPost_ret (v := .tuple #[.int .i64 2, .func (.func 100) #[] #[.pointer (some ⟨w.heap.size, 0, none⟩)]]) (by simp [results, Try.results66, go_sem]) rfl ⟨rfl, rfl⟩
theorem cl8 (g : Nat) (x y z : Int) (w : World) (hgn : g < w.heap.size) (hg : w.cell? ⟨g, 0, none⟩ = some (fv 82)) : Calls Try.prog 100 #[.agg #[.int .u32 x, .int .u32 y, .int .u32 z], .pointer (some ⟨g, 0, none⟩)] w fun e w' => e = .returned (.int .u32 (doF 8 x y z)) ∧ Below w.heap.size w w' := by
  have hs : doF 8 x y z = doF 8 x y z := rfl
  unfold doF at hs ⊢
  simp only [reduceIte, Int.reduceEq] at hs ⊢
  clear hs
  go_enter Try.func100, Try.ntmps100
  go_wp2_with (go_at_call 82; refine (Min _ _ _).mono ?_; rintro e w' ⟨rfl, ⟨⟨nq, rfl⟩⟩⟩)
  go_ret
  exact ⟨rfl, by repeat (first | exact Below.refl _ _ | apply pw_below_drewN | apply below_alloc)⟩
theorem mk9 (w : World) : Calls Try.prog 99 #[fv 84] w fun e w' => e = .returned (.func (.func 100) #[] #[.pointer (some ⟨w.heap.size, 0, none⟩)]) ∧ w.alloc (.cells #[fv 84] 95) = w' := by
  have hmf := hmf
  go_enter Try.func99, Try.ntmps99
  go_wp2
  go_ret
  exact ⟨rfl, rfl⟩
theorem kn9 (w : World) : Calls Try.prog 66 #[.int .i64 9] w fun e w' => e = .returned (.tuple #[.int .i64 2, .func (.func 100) #[] #[.pointer (some ⟨w.heap.size, 0, none⟩)]]) ∧ w.alloc (.cells #[fv 84] 95) = w' := by
  have hmf := hmf
  go_enter Try.func66, Try.ntmps66
  go_wp2_with (go_at_call 99; refine (mk9 _).mono ?_; rintro e w' ⟨rfl, rfl⟩)
  exact bodyPost_ret (v := .tuple #[.int .i64 2, .func (.func 100) #[] #[.pointer (some ⟨w.heap.size, 0, none⟩)]]) (by simp [results, Try.results66, go_sem]) rfl ⟨rfl, rfl⟩
theorem cl9 (g : Nat) (x y z : Int) (w : World) (hgn : g < w.heap.size) (hg : w.cell? ⟨g, 0, none⟩ = some (fv 84)) : Calls Try.prog 100 #[.agg #[.int .u32 x, .int .u32 y, .int .u32 z], .pointer (some ⟨g, 0, none⟩)] w fun e w' => e = .returned (.int .u32 (doF 9 x y z)) ∧ Below w.heap.size w w' := by
  have hs : doF 9 x y z = doF 9 x y z := rfl
  unfold doF at hs ⊢
  simp only [reduceIte, Int.reduceEq] at hs ⊢
  clear hs
  go_enter Try.func100, Try.ntmps100
  go_wp2_with (go_at_call 84; refine (Max _ _ _).mono ?_; rintro e w' ⟨rfl, ⟨⟨nq, rfl⟩⟩⟩)
  go_ret
  exact ⟨rfl, by repeat (first | exact Below.refl _ _ | apply pw_below_drewN | apply below_alloc)⟩
theorem mk10 (w : World) : Calls Try.prog 99 #[fv 106] w fun e w' => e = .returned (.func (.func 100) #[] #[.pointer (some ⟨w.heap.size, 0, none⟩)]) ∧ w.alloc (.cells #[fv 106] 95) = w' := by
  have hmf := hmf
  go_enter Try.func99, Try.ntmps99
  go_wp2
  go_ret
  exact ⟨rfl, rfl⟩
theorem kn10 (w : World) : Calls Try.prog 66 #[.int .i64 10] w fun e w' => e = .returned (.tuple #[.int .i64 2, .func (.func 100) #[] #[.pointer (some ⟨w.heap.size, 0, none⟩)]]) ∧ w.alloc (.cells #[fv 106] 95) = w' := by
  have hmf := hmf
  go_enter Try.func66, Try.ntmps66
  go_wp2_with (go_at_call 99; refine (mk10 _).mono ?_; rintro e w' ⟨rfl, rfl⟩)
  exact bodyPost_ret (v := .tuple #[.int .i64 2, .func (.func 100) #[] #[.pointer (some ⟨w.heap.size, 0, none⟩)]]) (by simp [results, Try.results66, go_sem]) rfl ⟨rfl, rfl⟩
theorem cl10 (g : Nat) (x y z : Int) (w : World) (hgn : g < w.heap.size) (hg : w.cell? ⟨g, 0, none⟩ = some (fv 106)) : Calls Try.prog 100 #[.agg #[.int .u32 x, .int .u32 y, .int .u32 z], .pointer (some ⟨g, 0, none⟩)] w fun e w' => e = .returned (.int .u32 (doF 10 x y z)) ∧ Below w.heap.size w w' := by
  have hs : doF 10 x y z = doF 10 x y z := rfl
  unfold doF at hs ⊢
  simp only [reduceIte, Int.reduceEq] at hs ⊢
  clear hs
  go_enter Try.func100, Try.ntmps100
  go_wp2_with (go_at_call 106; refine (lessflag _ _ _).mono ?_; rintro e w' ⟨rfl, rfl⟩)
  go_ret
  exact ⟨rfl, by repeat (first | exact Below.refl _ _ | apply pw_below_drewN | apply below_alloc)⟩
theorem cl15 (x y z : Int) (w : World) : Calls Try.prog 108 #[.agg #[.int .u32 x, .int .u32 y, .int .u32 z]] w fun e w' => e = .returned (.int .u32 (doF 15 x y z)) ∧ Below w.heap.size w w' := by
  unfold doF
  simp only [reduceIte, Int.reduceEq]
  go_enter Try.func108, Try.ntmps108
  go_wp2_with (go_at_call 109; refine (Select _ _ _ _).mono ?_; rintro e w' ⟨rfl, rfl⟩)
  go_ret
  exact ⟨rfl, by repeat (first | exact Below.refl _ _ | apply pw_below_drewN | apply below_alloc)⟩
theorem kn15 (w : World) : Calls Try.prog 66 #[.int .i64 15] w fun e w' => e = .returned (.tuple #[.int .i64 3, .func (.func 108) #[] #[]]) ∧ w = w' := by
  have hmf := hmf
  go_enter Try.func66, Try.ntmps66
  go_wp2
  exact bodyPost_ret (v := .tuple #[.int .i64 3, .func (.func 108) #[] #[]]) (by simp [results, Try.results66, go_sem]) rfl ⟨rfl, rfl⟩
theorem kn0 (op : Int) (h : ar op = 0) (w : World) : Calls Try.prog 66 #[.int .i64 op] w fun e w' => e = .returned (.tuple #[.int .i64 0, .nilFunc]) ∧ w = w' := by
  have c : ∀ k : Int, 3 ≤ k → k ≤ 15 → (op == k) = false := by
    intro k h3 h15
    rw [beq_eq_false_iff_ne]
    rintro rfl
    unfold ar at h
    split at h
    · cases h
    split at h
    · cases h
    split at h
    · cases h
    · omega
  have c3 := c 3 (by decide) (by decide)
  have c4 := c 4 (by decide) (by decide)
  have c5 := c 5 (by decide) (by decide)
  have c6 := c 6 (by decide) (by decide)
  have c7 := c 7 (by decide) (by decide)
  have c8 := c 8 (by decide) (by decide)
  have c9 := c 9 (by decide) (by decide)
  have c10 := c 10 (by decide) (by decide)
  have c11 := c 11 (by decide) (by decide)
  have c12 := c 12 (by decide) (by decide)
  have c13 := c 13 (by decide) (by decide)
  have c14 := c 14 (by decide) (by decide)
  have c15 := c 15 (by decide) (by decide)
  clear c h
  go_enter Try.func66, Try.ntmps66
  go_wp2
  exact bodyPost_ret (v := .tuple #[.int .i64 0, .nilFunc]) (by simp [results, Try.results66, go_sem]) rfl ⟨rfl, rfl⟩
theorem does {W : World} {n : Nat} {f : Nat} {op : Int} (ty : TypeId) (hcl : ∀ (g : Nat) (x y z : Int) (w : World), g < w.heap.size → w.cell? ⟨g, 0, none⟩ = some (fv f) → Calls Try.prog n #[.agg #[.int .u32 x, .int .u32 y, .int .u32 z], .pointer (some ⟨g, 0, none⟩)] w fun e w' => e = .returned (.int .u32 (doF op x y z)) ∧ Below w.heap.size w w') :
    Does (W.alloc (.cells #[fv f] ty)) n #[.pointer (some ⟨W.heap.size, 0, none⟩)] op := by
  intro x y z W' hb
  have h0 : (W.alloc (.cells #[fv f] ty)).cell? ⟨W.heap.size, 0, none⟩ = some (fv f) := by simp [World.cell?_alloc_at]
  have h1 := World.block_lt_of_cell? _ _ h0
  have h2 := (hb.cell h1).trans h0
  exact hcl W.heap.size x y z W' (World.block_lt_of_cell? _ _ h2) h2
theorem kernel (op : Int) (h : ar op ≠ 0) (w : World) : Calls Try.prog 66 #[.int .i64 op] w fun e w' => ∃ n cap, e = .returned (.tuple #[.int .i64 (ar op), .func (.func n) #[] cap]) ∧ Below w.heap.size w w' ∧ Does w' n cap op ∧ (∀ (xs : Array Value) (W : World), (callFunc n xs).run Try.prog W = .ok (.enter n xs) W) := by
  have hop : op = 3 ∨ op = 11 ∨ op = 12 ∨ op = 13 ∨ op = 14 ∨ op = 4 ∨ op = 5 ∨ op = 6 ∨ op = 7 ∨ op = 8 ∨ op = 9 ∨ op = 10 ∨ op = 15 := by
    unfold ar at h
    split at h
    · omega
    split at h
    · omega
    split at h
    · omega
    · exact absurd rfl h
  rcases hop with rfl | rfl | rfl | rfl | rfl | rfl | rfl | rfl | rfl | rfl | rfl | rfl | rfl
  · refine (kn3 w).mono ?_
    rintro e w' ⟨rfl, rfl⟩
    exact ⟨_, _, rfl, below_alloc (Below.refl _ _) _, does _ cl3, fun xs W => enters_ Try.func98 (by kernel_rfl) rfl xs W⟩
  · refine (kn11 w).mono ?_
    rintro e w' ⟨rfl, rfl⟩
    exact ⟨_, _, rfl, below_alloc (Below.refl _ _) _, does _ cl11, fun xs W => enters_ Try.func98 (by kernel_rfl) rfl xs W⟩
  · refine (kn12 w).mono ?_
    rintro e w' ⟨rfl, rfl⟩
    exact ⟨_, _, rfl, below_alloc (Below.refl _ _) _, does _ cl12, fun xs W => enters_ Try.func98 (by kernel_rfl) rfl xs W⟩
  · refine (kn13 w).mono ?_
    rintro e w' ⟨rfl, rfl⟩
    exact ⟨_, _, rfl, below_alloc (Below.refl _ _) _, does _ cl13, fun xs W => enters_ Try.func98 (by kernel_rfl) rfl xs W⟩
  · refine (kn14 w).mono ?_
    rintro e w' ⟨rfl, rfl⟩
    exact ⟨_, _, rfl, below_alloc (Below.refl _ _) _, does _ cl14, fun xs W => enters_ Try.func98 (by kernel_rfl) rfl xs W⟩
  · refine (kn4 w).mono ?_
    rintro e w' ⟨rfl, rfl⟩
    exact ⟨_, _, rfl, below_alloc (Below.refl _ _) _, does _ cl4, fun xs W => enters_ Try.func100 (by kernel_rfl) rfl xs W⟩
  · refine (kn5 w).mono ?_
    rintro e w' ⟨rfl, rfl⟩
    exact ⟨_, _, rfl, below_alloc (Below.refl _ _) _, does _ cl5, fun xs W => enters_ Try.func100 (by kernel_rfl) rfl xs W⟩
  · refine (kn6 w).mono ?_
    rintro e w' ⟨rfl, rfl⟩
    exact ⟨_, _, rfl, below_alloc (Below.refl _ _) _, does _ cl6, fun xs W => enters_ Try.func100 (by kernel_rfl) rfl xs W⟩
  · refine (kn7 w).mono ?_
    rintro e w' ⟨rfl, rfl⟩
    exact ⟨_, _, rfl, below_alloc (Below.refl _ _) _, does _ cl7, fun xs W => enters_ Try.func100 (by kernel_rfl) rfl xs W⟩
  · refine (kn8 w).mono ?_
    rintro e w' ⟨rfl, rfl⟩
    exact ⟨_, _, rfl, below_alloc (Below.refl _ _) _, does _ cl8, fun xs W => enters_ Try.func100 (by kernel_rfl) rfl xs W⟩
  · refine (kn9 w).mono ?_
    rintro e w' ⟨rfl, rfl⟩
    exact ⟨_, _, rfl, below_alloc (Below.refl _ _) _, does _ cl9, fun xs W => enters_ Try.func100 (by kernel_rfl) rfl xs W⟩
  · refine (kn10 w).mono ?_
    rintro e w' ⟨rfl, rfl⟩
    exact ⟨_, _, rfl, below_alloc (Below.refl _ _) _, does _ cl10, fun xs W => enters_ Try.func100 (by kernel_rfl) rfl xs W⟩
  · refine (kn15 w).mono ?_
    rintro e w' ⟨rfl, rfl⟩
    exact ⟨_, _, rfl, Below.refl _ _, fun x y z W _ => cl15 x y z W, fun xs W => enters_ Try.func108 (by kernel_rfl) rfl xs W⟩
end Go.Proofs.Ytmfladkimmnccaa.Ker
