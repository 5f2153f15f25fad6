/- Plain Lean functions with the answers of the program's functions, and proofs that the machine's calls come to them; lines written by a program for this claim. No conditions. -/
import Derived.Test.YtdckeflggcefbaaC1
import Derived.Test.YtdckeflggcefbaaC10
import Derived.Test.YtdckeflggcefbaaC4
import Derived.Test.YtdckeflggcefbaaC9
namespace Go.Proofs.Ytdckeflggcefbaa.Y
open Go.RowKit Go.Proofs.YtdckeflggcefbaaW.PrintWords Go.Proofs.YtdckeflggcefbaaW.PrintLast Go.Proofs.YtdckeflggcefbaaW.PrintMore
attribute [local go_sem] max2_int min2_int max_two min_two max_three min_three max_four min_four
set_option linter.unusedVariables false
set_option linter.unusedSimpArgs false

/-! ### comptrollerlaw09_FactCalls: function 3 -/
def comptrollerlaw09_FactCalls.j0 : Nat → List (S28) → List (S28) → Bool → ByteArray → ByteArray → ByteArray → ByteArray → Int → Option (Bool)
 | 0, _, _, _, _, _, _, _, _ => none
 | k + 1, x0, x1, x36, x384000, x384001, x384002, x384003, x384004 => if x36 = true then (some true) else ((comptrollerlaw09_Theirs.f k x0).bind fun t392 => ((comptrollerlaw09_Theirs.f k x1).bind fun t395 => ((fact_Add.f k t392 t395).bind fun bt398 => ((comptrollerref09_Add.f k x0 x1).bind fun bt402 => ((comptrollerlaw09_Theirs.f k x0).bind fun t406 => ((fact_Sum.f k t406 x384000 x384001 x384002).bind fun bt409 => ((comptrollerref09_Sum.f k x0 x384000 x384001 x384002).bind fun bt411 => ((comptrollerlaw09_Ours.f k bt398.1).bind fun t413 => ((comptrollerref09_Same.f k t413 bt402.1).bind fun t416 => (if t416 = true then (if bt398.2 = bt402.2 then ((comptrollerlaw09_Theirs.f k x0).bind fun t417 => ((fact_Get.f k t417 x384000 x384001 x384002 x384003 x384004).bind fun t420 => ((comptrollerref09_Get.f k x0 x384000 x384001 x384002 x384003 x384004).bind fun t421 => (if t420 = t421 then (if bt409.1 = bt411.1 then (if bt409.2 = bt411.2 then ((comptrollerlaw09_Theirs.f k x0).bind fun t422 => ((fact_Pick.f k t422 x384000 x384004).bind fun t425 => ((comptrollerlaw09_Ours.f k t425).bind fun t428 => ((comptrollerref09_Pick.f k x0 x384000 x384004).bind fun t431 => ((comptrollerref09_Same.f k t428 t431).bind fun t434 => (some t434)))))) else (none)) else (none)) else (none))))) else (none)) else (none)))))))))))
def comptrollerlaw09_FactCalls.f (k : Nat) (l0 : List (S28)) (l1 : List (S28)) (a2_0 : ByteArray) (a2_1 : ByteArray) (a2_2 : ByteArray) (a2_3 : ByteArray) (a2_4 : Int) : Option (Bool) := (comptrollerlaw09_alive.f k).bind fun t384 => (if t384 = true then ((comptrollerlaw09_Few.f k l0).bind fun t385 => (if t385 = true then ((comptrollerlaw09_Few.f k l1).bind fun t386 => (if t386 = true then ((comptrollerlaw09_Few.f k (([(⟨(⟨a2_0, a2_1, a2_2, a2_3, a2_4⟩ : S24), 0⟩ : S28)] : List (S28)))).bind fun t390 => (if t390 = true then ((comptrollerref09_Right.f k l0).bind fun t391 => (comptrollerlaw09_FactCalls.j0 k l0 l1 (!t391) a2_0 a2_1 a2_2 a2_3 a2_4)) else (comptrollerlaw09_FactCalls.j0 k l0 l1 true a2_0 a2_1 a2_2 a2_3 a2_4))) else (comptrollerlaw09_FactCalls.j0 k l0 l1 true a2_0 a2_1 a2_2 a2_3 a2_4))) else (comptrollerlaw09_FactCalls.j0 k l0 l1 true a2_0 a2_1 a2_2 a2_3 a2_4))) else (some false))
theorem comptrollerlaw09_FactCalls.mono_l : ∀ k, (∀ y0 y1 y2 y3 y4 y5 y6 y7, LeO (comptrollerlaw09_FactCalls.j0 k y0 y1 y2 y3 y4 y5 y6 y7) (comptrollerlaw09_FactCalls.j0 (k + 1) y0 y1 y2 y3 y4 y5 y6 y7))
 | 0 => fun _ _ _ _ _ _ _ _ r h => by simp [comptrollerlaw09_FactCalls.j0] at h
 | k + 1 => by
  have ih0 := comptrollerlaw09_FactCalls.mono_l k
  ·intro y0 y1 y2 y3 y4 y5 y6 y7
   unfold comptrollerlaw09_FactCalls.j0
   with_reducible repeat' first | apply ih0 | apply comptrollerlaw09_Few.mono | apply comptrollerlaw09_Ours.mono | apply comptrollerlaw09_Theirs.mono | apply comptrollerlaw09_alive.mono | apply comptrollerref09_Add.mono | apply comptrollerref09_Get.mono | apply comptrollerref09_Pick.mono | apply comptrollerref09_Right.mono | apply comptrollerref09_Same.mono | apply comptrollerref09_Sum.mono | apply fact_Add.mono | apply fact_Get.mono | apply fact_Pick.mono | apply fact_Sum.mono | refine LeO.refl _ | refine LeO.none _ | refine LeO.ite ?_ ?_ | refine LeO.bind ?_ (fun _ => ?_)
theorem comptrollerlaw09_FactCalls.mono : ∀ a0 a1 a2 a3 a4 a5 a6 k, LeO (comptrollerlaw09_FactCalls.f k a0 a1 a2 a3 a4 a5 a6) (comptrollerlaw09_FactCalls.f (k + 1) a0 a1 a2 a3 a4 a5 a6) := by
 intro a0 a1 a2 a3 a4 a5 a6 k
 have ih0 := comptrollerlaw09_FactCalls.mono_l k
 unfold comptrollerlaw09_FactCalls.f
 with_reducible repeat' first | apply ih0 | apply comptrollerlaw09_Few.mono | apply comptrollerlaw09_Ours.mono | apply comptrollerlaw09_Theirs.mono | apply comptrollerlaw09_alive.mono | apply comptrollerref09_Add.mono | apply comptrollerref09_Get.mono | apply comptrollerref09_Pick.mono | apply comptrollerref09_Right.mono | apply comptrollerref09_Same.mono | apply comptrollerref09_Sum.mono | apply fact_Add.mono | apply fact_Get.mono | apply fact_Pick.mono | apply fact_Sum.mono | refine LeO.refl _ | refine LeO.none _ | refine LeO.ite ?_ ?_ | refine LeO.bind ?_ (fun _ => ?_)
def comptrollerlaw09_FactCalls.T7 : Bool × List (List Nat × List Nat) := (true, [([], []), ([0], [0]), ([], []), ([2], [2]), ([], []), ([4], [4]), ([], []), ([6], [6]), ([1, 3, 5, 7, 1], [1, 3, 5, 7]), ([8], [8]), ([9], [9]), ([9], [9]), ([10, 8, 0, 1, 2, 3, 4, 5, 6, 7, 8, 9, 10], [10]), ([11, 12, 0, 1, 2, 3, 4, 5, 6, 7, 8, 9, 10, 11, 12], [11])])
def comptrollerlaw09_FactCalls.B7 : List Nat := [0, 1, 0, 4, 0, 16, 0, 64, 255, 511, 1023, 1023, 2047, 8191]
theorem comptrollerlaw09_FactCalls.tab7 : rtab .any (opsOf Try.f3 7) = comptrollerlaw09_FactCalls.T7 := by kernel_rfl
theorem comptrollerlaw09_FactCalls.bits7 : waitsOk comptrollerlaw09_FactCalls.T7.2 comptrollerlaw09_FactCalls.B7 = true := by kernel_rfl
def comptrollerlaw09_FactCalls.T9 : Bool × List (List Nat × List Nat) := (true, [([], []), ([0], [0]), ([], []), ([1, 2, 1], [1, 2]), ([3, 3], [3]), ([4], [4]), ([4], [4]), ([5, 6, 4], [4, 5, 6]), ([4, 7], [4, 7]), ([8, 4], [8]), ([9], [9]), ([10, 9, 9], [9, 10]), ([9], [9]), ([11, 12, 11, 9], [9, 11, 12]), ([9], [9]), ([9], [9]), ([14, 15, 13, 9], [9, 14, 15]), ([13, 16, 9], [9, 13, 16]), ([9, 17], [9, 17]), ([18, 16], [18]), ([19], [19]), ([19], [19]), ([20, 21, 19], [19, 20, 21]), ([19, 22], [19, 22]), ([23, 19], [23]), ([24], [24]), ([24], [24]), ([25, 26, 24], [24, 25, 26]), ([24, 27], [24, 27]), ([28, 24], [28]), ([29], [29]), ([30, 29, 29], [29, 30]), ([29], [29]), ([32, 29], [29, 32]), ([29], [29]), ([34, 29], [29, 34]), ([31, 33, 35, 31, 29], [29, 31, 33, 35]), ([36, 36, 29], [29, 36]), ([29], [29]), ([29], [29]), ([39, 29], [29, 39]), ([29], [29]), ([41, 29], [29, 41]), ([38, 40, 42, 37, 29], [29, 38, 40, 42]), ([37, 43, 43, 29], [29, 37, 43]), ([29, 44], [29, 44]), ([45, 44, 0, 1, 2, 3, 4, 5, 6, 7, 8, 9, 10, 11, 12, 13, 14, 15, 16, 17, 18, 19, 20, 21, 22, 23, 24, 25, 26, 27, 28, 29, 30, 31, 32, 33, 34, 35, 36, 37, 38, 39, 40, 41, 42, 43, 44, 45], [45])])
def comptrollerlaw09_FactCalls.B9 : List Nat := [0, 1, 0, 7, 15, 31, 31, 127, 255, 511, 1023, 2047, 1023, 8191, 1023, 1023, 65535, 131071, 262143, 524287, 1048575, 1048575, 4194303, 8388607, 16777215, 33554431, 33554431, 134217727, 268435455, 536870911, 1073741823, 2147483647, 1073741823, 5368709119, 1073741823, 18253611007, 68719476735, 137438953471, 1073741823, 1073741823, 550829555711, 1073741823, 2200096997375, 8796093022207, 17592186044415, 35184372088831, 70368744177663]
theorem comptrollerlaw09_FactCalls.tab9 : rtab .any (opsOf Try.f3 9) = comptrollerlaw09_FactCalls.T9 := by kernel_rfl
theorem comptrollerlaw09_FactCalls.bits9 : waitsOk comptrollerlaw09_FactCalls.T9.2 comptrollerlaw09_FactCalls.B9 = true := by kernel_rfl
set_option maxHeartbeats 8000000 in
set_option maxRecDepth 100000 in
theorem comptrollerlaw09_FactCalls.calls (k : Nat) (A0 : Option Addr) (c0 : Nat) (l0 : List (S28)) (A1 : Option Addr) (c1 : Nat) (l1 : List (S28)) (a2_0 : ByteArray) (a2_1 : ByteArray) (a2_2 : ByteArray) (a2_3 : ByteArray) (a2_4 : Int) (r : Bool) (w : World) (hr0 : Kd.C k28 w A0 l0.length l0) (hc0 : l0.length ≤ c0) (hr1 : Kd.C k28 w A1 l1.length l1) (hc1 : l1.length ≤ c1) (h : comptrollerlaw09_FactCalls.f k l0 l1 a2_0 a2_1 a2_2 a2_3 a2_4 = some r) :
  Calls Try.prog 3 #[.slice A0 l0.length c0, .slice A1 l1.length c1, .agg #[.string a2_0, .string a2_1, .string a2_2, .string a2_3, .int .i64 a2_4]] w fun e w' => e = .returned (.bool r) ∧ Below w.heap.size w w' := by
 have hu24 := Try.underlying24; have hu28 := Try.underlying28; have HR0 := Aside0.mk hr0; have HC0 := Aside0.mk hc0; clear hr0 hc0; have HR1 := Aside0.mk hr1; have HC1 := Aside0.mk hc1; clear hr1 hc1
 have HB := Aside0.mk (Below.refl w.heap.size w)
 have H : ((comptrollerlaw09_alive.f k).bind fun t384 => (if t384 = true then ((comptrollerlaw09_Few.f k l0).bind fun t385 => (if t385 = true then ((comptrollerlaw09_Few.f k l1).bind fun t386 => (if t386 = true then ((comptrollerlaw09_Few.f k (([(⟨(⟨a2_0, a2_1, a2_2, a2_3, a2_4⟩ : S24), 0⟩ : S28)] : List (S28)))).bind fun t390 => (if t390 = true then ((comptrollerref09_Right.f k l0).bind fun t391 => (comptrollerlaw09_FactCalls.j0 k l0 l1 (!t391) a2_0 a2_1 a2_2 a2_3 a2_4)) else (comptrollerlaw09_FactCalls.j0 k l0 l1 true a2_0 a2_1 a2_2 a2_3 a2_4))) else (comptrollerlaw09_FactCalls.j0 k l0 l1 true a2_0 a2_1 a2_2 a2_3 a2_4))) else (comptrollerlaw09_FactCalls.j0 k l0 l1 true a2_0 a2_1 a2_2 a2_3 a2_4))) else (some false))) = some r := h
 clear h
 replace H := Option.bind_eq_some_iff.mp H
 obtain ⟨t384, A40, H⟩ := H
 replace H : (if t384 = true then ((comptrollerlaw09_Few.f k l0).bind fun t385 => (if t385 = true then ((comptrollerlaw09_Few.f k l1).bind fun t386 => (if t386 = true then ((comptrollerlaw09_Few.f k (([(⟨(⟨a2_0, a2_1, a2_2, a2_3, a2_4⟩ : S24), 0⟩ : S28)] : List (S28)))).bind fun t390 => (if t390 = true then ((comptrollerref09_Right.f k l0).bind fun t391 => (comptrollerlaw09_FactCalls.j0 k l0 l1 (!t391) a2_0 a2_1 a2_2 a2_3 a2_4)) else (comptrollerlaw09_FactCalls.j0 k l0 l1 true a2_0 a2_1 a2_2 a2_3 a2_4))) else (comptrollerlaw09_FactCalls.j0 k l0 l1 true a2_0 a2_1 a2_2 a2_3 a2_4))) else (comptrollerlaw09_FactCalls.j0 k l0 l1 true a2_0 a2_1 a2_2 a2_3 a2_4))) else (some false)) = some r := H
 have A4 := Aside0.mk A40; clear A40
 by_cases c5 : t384 = true
 ·subst c5
  have H1 : ((comptrollerlaw09_Few.f k l0).bind fun t385 => (if t385 = true then ((comptrollerlaw09_Few.f k l1).bind fun t386 => (if t386 = true then ((comptrollerlaw09_Few.f k (([(⟨(⟨a2_0, a2_1, a2_2, a2_3, a2_4⟩ : S24), 0⟩ : S28)] : List (S28)))).bind fun t390 => (if t390 = true then ((comptrollerref09_Right.f k l0).bind fun t391 => (comptrollerlaw09_FactCalls.j0 k l0 l1 (!t391) a2_0 a2_1 a2_2 a2_3 a2_4)) else (comptrollerlaw09_FactCalls.j0 k l0 l1 true a2_0 a2_1 a2_2 a2_3 a2_4))) else (comptrollerlaw09_FactCalls.j0 k l0 l1 true a2_0 a2_1 a2_2 a2_3 a2_4))) else (comptrollerlaw09_FactCalls.j0 k l0 l1 true a2_0 a2_1 a2_2 a2_3 a2_4))) = some r := by rw [if_pos rfl] at H; exact H
  clear H; have H := H1; clear H1; have HC6 := Aside0.mk H; clear H
  go_enter Try.func3, Try.ntmps3
  go_upto_region 3 with (first | ((with_reducible refine gate_dst (N := 5) rfl ?_); (try (refine gate_guard (by rfl) ?_; dsimp only)); refine box_event ?hg (N := 5) ?hd (cs := #[.string a2_0, .string a2_1, .string a2_2, .string a2_3, .int .i64 a2_4]) (t := 24) ?hr ?_; (case hd => rfl); (case hg => rfl); (case hr => first | (go_simp; done) | (go_simp; rfl)); intro gb383 hg w7 hbox hb; have n0_ := Aside0.mk (below_step bw hb); have n1_ := Aside0.mk (hbox); have n2_ := Aside0.mk ((by rw [hg]; exact (below_size bw) : w.heap.size ≤ gb383)); have n3_ := Aside0.mk ((by rw [hg]; exact (below_size bw) : w.heap.size ≤ gb383)); clear HB; have HB := n0_; have BK383 := n1_; have GW383 := n2_; have GE383 := n3_; clear n0_ n1_ n2_ n3_; clear hb hbox hg) | ((with_reducible refine gate_callee (f := 6) rfl ?_); refine goesL_ (some 15) rfl rfl Try.func6 (by kernel_rfl) rfl #[] rfl mp_ ?_; (with_reducible refine (comptrollerlaw09_alive.calls k  true _ A4.out).mono ?_); rintro e w8 ⟨rfl, hb⟩; refine ⟨_, rfl, ?_⟩; have n0_ := Aside0.mk (blk_below (g := gb383) (o := .cells #[.string a2_0, .string a2_1, .string a2_2, .string a2_3, .int .i64 a2_4] 24 (0, 0)) (by (with_reducible repeat (first | refine blk_drewN ?_ _ | refine blk_drew ?_ | refine blk_alloc ?_ _)); exact BK383.out) hb); have n1_ := Aside0.mk (below_step bx hb); clear BK383; clear HB; have BK383 := n0_; have HB := n1_; clear n0_ n1_; (try clear hb); (try clear hb2); (try clear hk); (try clear hi)))
  (try simp only [Act.put, List.setIfInBounds_toArray, List.set_cons_zero, List.set_cons_succ])
  go_cut [36] (fun v36 wc => ∃ (kq : Nat) (x36_5 : Bool), v36 = .bool x36_5 ∧ Aside0 (comptrollerlaw09_FactCalls.j0 kq l0 l1 x36_5 a2_0 a2_1 a2_2 a2_3 a2_4 = some r) ∧ Aside0 (kq ≤ k) ∧ Aside0 (wc.heap[gb383]? = some (.cells #[.string a2_0, .string a2_1, .string a2_2, .string a2_3, .int .i64 a2_4] 24 (0, 0))) ∧ Aside0 (Below w.heap.size w wc))
  case first =>
   have H := HC6.out; clear HC6
   replace H := Option.bind_eq_some_iff.mp H
   obtain ⟨t385, A90, H⟩ := H
   replace H : (if t385 = true then ((comptrollerlaw09_Few.f k l1).bind fun t386 => (if t386 = true then ((comptrollerlaw09_Few.f k (([(⟨(⟨a2_0, a2_1, a2_2, a2_3, a2_4⟩ : S24), 0⟩ : S28)] : List (S28)))).bind fun t390 => (if t390 = true then ((comptrollerref09_Right.f k l0).bind fun t391 => (comptrollerlaw09_FactCalls.j0 k l0 l1 (!t391) a2_0 a2_1 a2_2 a2_3 a2_4)) else (comptrollerlaw09_FactCalls.j0 k l0 l1 true a2_0 a2_1 a2_2 a2_3 a2_4))) else (comptrollerlaw09_FactCalls.j0 k l0 l1 true a2_0 a2_1 a2_2 a2_3 a2_4))) else (comptrollerlaw09_FactCalls.j0 k l0 l1 true a2_0 a2_1 a2_2 a2_3 a2_4)) = some r := H
   have A9 := Aside0.mk A90; clear A90
   by_cases c10 : t385 = true
   ·subst c10
    have H1 : ((comptrollerlaw09_Few.f k l1).bind fun t386 => (if t386 = true then ((comptrollerlaw09_Few.f k (([(⟨(⟨a2_0, a2_1, a2_2, a2_3, a2_4⟩ : S24), 0⟩ : S28)] : List (S28)))).bind fun t390 => (if t390 = true then ((comptrollerref09_Right.f k l0).bind fun t391 => (comptrollerlaw09_FactCalls.j0 k l0 l1 (!t391) a2_0 a2_1 a2_2 a2_3 a2_4)) else (comptrollerlaw09_FactCalls.j0 k l0 l1 true a2_0 a2_1 a2_2 a2_3 a2_4))) else (comptrollerlaw09_FactCalls.j0 k l0 l1 true a2_0 a2_1 a2_2 a2_3 a2_4))) = some r := by rw [if_pos rfl] at H; exact H
    clear H; have H := H1; clear H1
    replace H := Option.bind_eq_some_iff.mp H
    obtain ⟨t386, A110, H⟩ := H
    replace H : (if t386 = true then ((comptrollerlaw09_Few.f k (([(⟨(⟨a2_0, a2_1, a2_2, a2_3, a2_4⟩ : S24), 0⟩ : S28)] : List (S28)))).bind fun t390 => (if t390 = true then ((comptrollerref09_Right.f k l0).bind fun t391 => (comptrollerlaw09_FactCalls.j0 k l0 l1 (!t391) a2_0 a2_1 a2_2 a2_3 a2_4)) else (comptrollerlaw09_FactCalls.j0 k l0 l1 true a2_0 a2_1 a2_2 a2_3 a2_4))) else (comptrollerlaw09_FactCalls.j0 k l0 l1 true a2_0 a2_1 a2_2 a2_3 a2_4)) = some r := H
    have A11 := Aside0.mk A110; clear A110
    by_cases c12 : t386 = true
    ·subst c12
     have H1 : ((comptrollerlaw09_Few.f k (([(⟨(⟨a2_0, a2_1, a2_2, a2_3, a2_4⟩ : S24), 0⟩ : S28)] : List (S28)))).bind fun t390 => (if t390 = true then ((comptrollerref09_Right.f k l0).bind fun t391 => (comptrollerlaw09_FactCalls.j0 k l0 l1 (!t391) a2_0 a2_1 a2_2 a2_3 a2_4)) else (comptrollerlaw09_FactCalls.j0 k l0 l1 true a2_0 a2_1 a2_2 a2_3 a2_4))) = some r := by rw [if_pos rfl] at H; exact H
     clear H; have H := H1; clear H1
     obtain ⟨y387, hy387⟩ : ∃ y_ : List (S28), y_ = (([(⟨(⟨a2_0, a2_1, a2_2, a2_3, a2_4⟩ : S24), 0⟩ : S28)] : List (S28))) := ⟨_, rfl⟩
     replace H : ((comptrollerlaw09_Few.f k y387).bind fun t390 => (if t390 = true then ((comptrollerref09_Right.f k l0).bind fun t391 => (comptrollerlaw09_FactCalls.j0 k l0 l1 (!t391) a2_0 a2_1 a2_2 a2_3 a2_4)) else (comptrollerlaw09_FactCalls.j0 k l0 l1 true a2_0 a2_1 a2_2 a2_3 a2_4))) = some r := rh hy387 H
     have Ny387 := Aside0.mk hy387; clear hy387
     replace H := Option.bind_eq_some_iff.mp H
     obtain ⟨t390, A130, H⟩ := H
     replace H : (if t390 = true then ((comptrollerref09_Right.f k l0).bind fun t391 => (comptrollerlaw09_FactCalls.j0 k l0 l1 (!t391) a2_0 a2_1 a2_2 a2_3 a2_4)) else (comptrollerlaw09_FactCalls.j0 k l0 l1 true a2_0 a2_1 a2_2 a2_3 a2_4)) = some r := H
     have A13 := Aside0.mk A130; clear A130
     by_cases c14 : t390 = true
     ·subst c14
      have H1 : ((comptrollerref09_Right.f k l0).bind fun t391 => (comptrollerlaw09_FactCalls.j0 k l0 l1 (!t391) a2_0 a2_1 a2_2 a2_3 a2_4)) = some r := by rw [if_pos rfl] at H; exact H
      clear H; have H := H1; clear H1
      replace H := Option.bind_eq_some_iff.mp H
      obtain ⟨t391, A150, H⟩ := H
      replace H : (comptrollerlaw09_FactCalls.j0 k l0 l1 (!t391) a2_0 a2_1 a2_2 a2_3 a2_4) = some r := H
      have A15 := Aside0.mk A150; clear A150
      have H' := Aside0.mk H
      clear H
      go_wp2_with (first | ((with_reducible refine gate_callee (f := 7) rfl ?_); refine goesL_ (some 18) rfl rfl Try.func7 (by kernel_rfl) rfl #[.slice A0 l0.length c0] rfl mp_ ?_; (with_reducible refine (comptrollerlaw09_Few.calls k _ _ l0 true _ ?side1 ?side2 A9.out).mono ?_); (case side1 => repeat (first | exact (Kd.C_below HR0.out HB.out) | (with_reducible refine Kd.C_alloc ?_ _) | (with_reducible refine Kd.C_drewN ?_ _) | (with_reducible refine Kd.C_drew ?_))); (case side2 => exact HC0.out); rintro e w16 ⟨rfl, hb⟩; refine ⟨_, rfl, ?_⟩; have n0_ := Aside0.mk (blk_below (g := gb383) (o := .cells #[.string a2_0, .string a2_1, .string a2_2, .string a2_3, .int .i64 a2_4] 24 (0, 0)) (by (with_reducible repeat (first | refine blk_drewN ?_ _ | refine blk_drew ?_ | refine blk_alloc ?_ _)); exact BK383.out) hb); have n1_ := Aside0.mk (below_step bx hb); clear BK383; clear HB; have BK383 := n0_; have HB := n1_; clear n0_ n1_; (try clear hb); (try clear hb2); (try clear hk); (try clear hi)) | (go_at_call 7; (with_reducible refine (comptrollerlaw09_Few.calls k _ _ l1 true _ ?side1 ?side2 A11.out).mono ?_); (case side1 => repeat (first | exact (Kd.C_below HR1.out HB.out) | (with_reducible refine Kd.C_alloc ?_ _) | (with_reducible refine Kd.C_drewN ?_ _) | (with_reducible refine Kd.C_drew ?_))); (case side2 => exact HC1.out); rintro e w17 ⟨rfl, hb⟩; have n0_ := Aside0.mk (blk_below (g := gb383) (o := .cells #[.string a2_0, .string a2_1, .string a2_2, .string a2_3, .int .i64 a2_4] 24 (0, 0)) (by (with_reducible repeat (first | refine blk_drewN ?_ _ | refine blk_drew ?_ | refine blk_alloc ?_ _)); exact BK383.out) hb); have n1_ := Aside0.mk (below_step bx hb); clear BK383; clear HB; have BK383 := n0_; have HB := n1_; clear n0_ n1_; (try clear hb); (try clear hb2); (try clear hk); (try clear hi); obtain ⟨hcz18_0, hcz18_1, hcz18_2, hcz18_3, hcz18_4⟩ := bc5 BK383.out; have hfz18_0 := blk_frozen BK383.out 0; have hfz18_1 := blk_frozen BK383.out 1; have hfz18_2 := blk_frozen BK383.out 2; have hfz18_3 := blk_frozen BK383.out 3; have hfz18_4 := blk_frozen BK383.out 4) | ((with_reducible refine gate_dst (N := 28) rfl ?_); (try (refine gate_guard (by rfl) ?_; dsimp only)); refine Kd.R_lit k28 _ 28 ?hg (N := 28) ?hd (xs := ([(⟨(⟨a2_0, a2_1, a2_2, a2_3, a2_4⟩ : S24), 0⟩ : S28)] : List (S28))) (inner := [.string a2_0, .string a2_1, .string a2_2, .string a2_3, .int .i64 a2_4, .int .i64 0]) (ok := fun _ => True) (okp := fun _ => True) ?hr ?hp (fun _ hk => hk) trivial (Below.refl _ _) (Nat.le_refl _) (by simp) ?_; (case hd => rfl); (case hg => rfl); (case hr => first | (go_simp; done) | (go_simp; rfl)); (case hp => exact (Reps.c6 (show Kd.M k28 _ _ _ (⟨(⟨a2_0, a2_1, a2_2, a2_3, a2_4⟩ : S24), 0⟩ : S28) [.string a2_0, .string a2_1, .string a2_2, .string a2_3, .int .i64 a2_4, .int .i64 0] from (k28_mkM _ _ _ (⟨(⟨a2_0, a2_1, a2_2, a2_3, a2_4⟩ : S24), 0⟩ : S28) )) (Reps.none _ _))); intro v388 w19 ho20 hb hg_ hnew_; clear hg_ hnew_; (first | rw [← Ny387.out] at ho20 | (simp only [Int.reduceToNat] at ho20; rw [← Ny387.out] at ho20)); have n0_ := Aside0.mk (Kd.R_lower ho20 (below_size bx)); have n1_ := Aside0.mk (blk_below (g := gb383) (o := .cells #[.string a2_0, .string a2_1, .string a2_2, .string a2_3, .int .i64 a2_4] 24 (0, 0)) (by (with_reducible repeat (first | refine blk_drewN ?_ _ | refine blk_drew ?_ | refine blk_alloc ?_ _)); exact BK383.out) hb); have n2_ := Aside0.mk (below_step bx hb); clear BK383; clear HB; have HO389 := n0_; have BK383 := n1_; have HB := n2_; clear n0_ n1_ n2_; clear hb ho20; obtain ⟨Ao21, co21, eo21⟩ := Kd.R_slice HO389.out; subst eo21) | (go_at_call 7; (with_reducible refine (comptrollerlaw09_Few.calls k _ _ y387 true _ ?side1 ?side2 A13.out).mono ?_); (case side1 => repeat (first | exact (Kd.R_reads' HO389.out).2.2 | (with_reducible refine Kd.C_alloc ?_ _) | (with_reducible refine Kd.C_drewN ?_ _) | (with_reducible refine Kd.C_drew ?_))); (case side2 => exact (Kd.R_reads' HO389.out).2.1); rintro e w22 ⟨rfl, hb⟩; have n0_ := Aside0.mk (Kd.R_below (kr HO389) hb); have n1_ := Aside0.mk (blk_below (g := gb383) (o := .cells #[.string a2_0, .string a2_1, .string a2_2, .string a2_3, .int .i64 a2_4] 24 (0, 0)) (by (with_reducible repeat (first | refine blk_drewN ?_ _ | refine blk_drew ?_ | refine blk_alloc ?_ _)); exact BK383.out) hb); have n2_ := Aside0.mk (below_step bx hb); clear HO389; clear BK383; clear HB; have HO389 := n0_; have BK383 := n1_; have HB := n2_; clear n0_ n1_ n2_; (try clear hb); (try clear hb2); (try clear hk); (try clear hi)) | (go_at_call 8; (with_reducible refine (comptrollerref09_Right.calls k _ _ l0 t391 _ ?side1 ?side2 A15.out).mono ?_); (case side1 => repeat (first | exact (Kd.C_below HR0.out HB.out) | (with_reducible refine Kd.C_alloc ?_ _) | (with_reducible refine Kd.C_drewN ?_ _) | (with_reducible refine Kd.C_drew ?_))); (case side2 => exact HC0.out); rintro e w23 ⟨rfl, hb⟩; have n0_ := Aside0.mk (Kd.R_below (kr HO389) hb); have n1_ := Aside0.mk (blk_below (g := gb383) (o := .cells #[.string a2_0, .string a2_1, .string a2_2, .string a2_3, .int .i64 a2_4] 24 (0, 0)) (by (with_reducible repeat (first | refine blk_drewN ?_ _ | refine blk_drew ?_ | refine blk_alloc ?_ _)); exact BK383.out) hb); have n2_ := Aside0.mk (below_step bx hb); clear HO389; clear BK383; clear HB; have HO389 := n0_; have BK383 := n1_; have HB := n2_; clear n0_ n1_ n2_; (try clear hb); (try clear hb2); (try clear hk); (try clear hi)))
      go_meet
      case rel => exact ⟨_, (!t391), rs_, H', ⟨by first | omega | exact Nat.le_refl _⟩, ⟨by (with_reducible repeat (first | refine blk_drewN ?_ _ | refine blk_drew ?_ | refine blk_alloc ?_ _)); exact BK383.out⟩, ⟨bx⟩⟩
     ·replace c14 := Bool.eq_false_iff.mpr c14
      subst c14
      have H1 : (comptrollerlaw09_FactCalls.j0 k l0 l1 true a2_0 a2_1 a2_2 a2_3 a2_4) = some r := by rw [if_neg (show ¬ (false = true) by decide)] at H; exact H
      clear H; have H := H1; clear H1
      have H' := Aside0.mk H
      clear H
      go_wp2_with (first | ((with_reducible refine gate_callee (f := 7) rfl ?_); refine goesL_ (some 18) rfl rfl Try.func7 (by kernel_rfl) rfl #[.slice A0 l0.length c0] rfl mp_ ?_; (with_reducible refine (comptrollerlaw09_Few.calls k _ _ l0 true _ ?side1 ?side2 A9.out).mono ?_); (case side1 => repeat (first | exact (Kd.C_below HR0.out HB.out) | (with_reducible refine Kd.C_alloc ?_ _) | (with_reducible refine Kd.C_drewN ?_ _) | (with_reducible refine Kd.C_drew ?_))); (case side2 => exact HC0.out); rintro e w24 ⟨rfl, hb⟩; refine ⟨_, rfl, ?_⟩; have n0_ := Aside0.mk (blk_below (g := gb383) (o := .cells #[.string a2_0, .string a2_1, .string a2_2, .string a2_3, .int .i64 a2_4] 24 (0, 0)) (by (with_reducible repeat (first | refine blk_drewN ?_ _ | refine blk_drew ?_ | refine blk_alloc ?_ _)); exact BK383.out) hb); have n1_ := Aside0.mk (below_step bx hb); clear BK383; clear HB; have BK383 := n0_; have HB := n1_; clear n0_ n1_; (try clear hb); (try clear hb2); (try clear hk); (try clear hi)) | (go_at_call 7; (with_reducible refine (comptrollerlaw09_Few.calls k _ _ l1 true _ ?side1 ?side2 A11.out).mono ?_); (case side1 => repeat (first | exact (Kd.C_below HR1.out HB.out) | (with_reducible refine Kd.C_alloc ?_ _) | (with_reducible refine Kd.C_drewN ?_ _) | (with_reducible refine Kd.C_drew ?_))); (case side2 => exact HC1.out); rintro e w25 ⟨rfl, hb⟩; have n0_ := Aside0.mk (blk_below (g := gb383) (o := .cells #[.string a2_0, .string a2_1, .string a2_2, .string a2_3, .int .i64 a2_4] 24 (0, 0)) (by (with_reducible repeat (first | refine blk_drewN ?_ _ | refine blk_drew ?_ | refine blk_alloc ?_ _)); exact BK383.out) hb); have n1_ := Aside0.mk (below_step bx hb); clear BK383; clear HB; have BK383 := n0_; have HB := n1_; clear n0_ n1_; (try clear hb); (try clear hb2); (try clear hk); (try clear hi); obtain ⟨hcz26_0, hcz26_1, hcz26_2, hcz26_3, hcz26_4⟩ := bc5 BK383.out; have hfz26_0 := blk_frozen BK383.out 0; have hfz26_1 := blk_frozen BK383.out 1; have hfz26_2 := blk_frozen BK383.out 2; have hfz26_3 := blk_frozen BK383.out 3; have hfz26_4 := blk_frozen BK383.out 4) | ((with_reducible refine gate_dst (N := 28) rfl ?_); (try (refine gate_guard (by rfl) ?_; dsimp only)); refine Kd.R_lit k28 _ 28 ?hg (N := 28) ?hd (xs := ([(⟨(⟨a2_0, a2_1, a2_2, a2_3, a2_4⟩ : S24), 0⟩ : S28)] : List (S28))) (inner := [.string a2_0, .string a2_1, .string a2_2, .string a2_3, .int .i64 a2_4, .int .i64 0]) (ok := fun _ => True) (okp := fun _ => True) ?hr ?hp (fun _ hk => hk) trivial (Below.refl _ _) (Nat.le_refl _) (by simp) ?_; (case hd => rfl); (case hg => rfl); (case hr => first | (go_simp; done) | (go_simp; rfl)); (case hp => exact (Reps.c6 (show Kd.M k28 _ _ _ (⟨(⟨a2_0, a2_1, a2_2, a2_3, a2_4⟩ : S24), 0⟩ : S28) [.string a2_0, .string a2_1, .string a2_2, .string a2_3, .int .i64 a2_4, .int .i64 0] from (k28_mkM _ _ _ (⟨(⟨a2_0, a2_1, a2_2, a2_3, a2_4⟩ : S24), 0⟩ : S28) )) (Reps.none _ _))); intro v388 w27 ho28 hb hg_ hnew_; clear hg_ hnew_; (first | rw [← Ny387.out] at ho28 | (simp only [Int.reduceToNat] at ho28; rw [← Ny387.out] at ho28)); have n0_ := Aside0.mk (Kd.R_lower ho28 (below_size bx)); have n1_ := Aside0.mk (blk_below (g := gb383) (o := .cells #[.string a2_0, .string a2_1, .string a2_2, .string a2_3, .int .i64 a2_4] 24 (0, 0)) (by (with_reducible repeat (first | refine blk_drewN ?_ _ | refine blk_drew ?_ | refine blk_alloc ?_ _)); exact BK383.out) hb); have n2_ := Aside0.mk (below_step bx hb); clear BK383; clear HB; have HO389 := n0_; have BK383 := n1_; have HB := n2_; clear n0_ n1_ n2_; clear hb ho28; obtain ⟨Ao29, co29, eo29⟩ := Kd.R_slice HO389.out; subst eo29) | (go_at_call 7; (with_reducible refine (comptrollerlaw09_Few.calls k _ _ y387 false _ ?side1 ?side2 A13.out).mono ?_); (case side1 => repeat (first | exact (Kd.R_reads' HO389.out).2.2 | (with_reducible refine Kd.C_alloc ?_ _) | (with_reducible refine Kd.C_drewN ?_ _) | (with_reducible refine Kd.C_drew ?_))); (case side2 => exact (Kd.R_reads' HO389.out).2.1); rintro e w30 ⟨rfl, hb⟩; have n0_ := Aside0.mk (Kd.R_below (kr HO389) hb); have n1_ := Aside0.mk (blk_below (g := gb383) (o := .cells #[.string a2_0, .string a2_1, .string a2_2, .string a2_3, .int .i64 a2_4] 24 (0, 0)) (by (with_reducible repeat (first | refine blk_drewN ?_ _ | refine blk_drew ?_ | refine blk_alloc ?_ _)); exact BK383.out) hb); have n2_ := Aside0.mk (below_step bx hb); clear HO389; clear BK383; clear HB; have HO389 := n0_; have BK383 := n1_; have HB := n2_; clear n0_ n1_ n2_; (try clear hb); (try clear hb2); (try clear hk); (try clear hi)))
      go_meet
      case rel => exact ⟨_, (true), rs_, H', ⟨by first | omega | exact Nat.le_refl _⟩, ⟨by (with_reducible repeat (first | refine blk_drewN ?_ _ | refine blk_drew ?_ | refine blk_alloc ?_ _)); exact BK383.out⟩, ⟨bx⟩⟩
    ·replace c12 := Bool.eq_false_iff.mpr c12
     subst c12
     have H1 : (comptrollerlaw09_FactCalls.j0 k l0 l1 true a2_0 a2_1 a2_2 a2_3 a2_4) = some r := by rw [if_neg (show ¬ (false = true) by decide)] at H; exact H
     clear H; have H := H1; clear H1
     have H' := Aside0.mk H
     clear H
     go_wp2_with (first | ((with_reducible refine gate_callee (f := 7) rfl ?_); refine goesL_ (some 18) rfl rfl Try.func7 (by kernel_rfl) rfl #[.slice A0 l0.length c0] rfl mp_ ?_; (with_reducible refine (comptrollerlaw09_Few.calls k _ _ l0 true _ ?side1 ?side2 A9.out).mono ?_); (case side1 => repeat (first | exact (Kd.C_below HR0.out HB.out) | (with_reducible refine Kd.C_alloc ?_ _) | (with_reducible refine Kd.C_drewN ?_ _) | (with_reducible refine Kd.C_drew ?_))); (case side2 => exact HC0.out); rintro e w31 ⟨rfl, hb⟩; refine ⟨_, rfl, ?_⟩; have n0_ := Aside0.mk (blk_below (g := gb383) (o := .cells #[.string a2_0, .string a2_1, .string a2_2, .string a2_3, .int .i64 a2_4] 24 (0, 0)) (by (with_reducible repeat (first | refine blk_drewN ?_ _ | refine blk_drew ?_ | refine blk_alloc ?_ _)); exact BK383.out) hb); have n1_ := Aside0.mk (below_step bx hb); clear BK383; clear HB; have BK383 := n0_; have HB := n1_; clear n0_ n1_; (try clear hb); (try clear hb2); (try clear hk); (try clear hi)) | (go_at_call 7; (with_reducible refine (comptrollerlaw09_Few.calls k _ _ l1 false _ ?side1 ?side2 A11.out).mono ?_); (case side1 => repeat (first | exact (Kd.C_below HR1.out HB.out) | (with_reducible refine Kd.C_alloc ?_ _) | (with_reducible refine Kd.C_drewN ?_ _) | (with_reducible refine Kd.C_drew ?_))); (case side2 => exact HC1.out); rintro e w32 ⟨rfl, hb⟩; have n0_ := Aside0.mk (blk_below (g := gb383) (o := .cells #[.string a2_0, .string a2_1, .string a2_2, .string a2_3, .int .i64 a2_4] 24 (0, 0)) (by (with_reducible repeat (first | refine blk_drewN ?_ _ | refine blk_drew ?_ | refine blk_alloc ?_ _)); exact BK383.out) hb); have n1_ := Aside0.mk (below_step bx hb); clear BK383; clear HB; have BK383 := n0_; have HB := n1_; clear n0_ n1_; (try clear hb); (try clear hb2); (try clear hk); (try clear hi)))
     go_meet
     case rel => exact ⟨_, (true), rs_, H', ⟨by first | omega | exact Nat.le_refl _⟩, ⟨by (with_reducible repeat (first | refine blk_drewN ?_ _ | refine blk_drew ?_ | refine blk_alloc ?_ _)); exact BK383.out⟩, ⟨bx⟩⟩
   ·replace c10 := Bool.eq_false_iff.mpr c10
    subst c10
    have H1 : (comptrollerlaw09_FactCalls.j0 k l0 l1 true a2_0 a2_1 a2_2 a2_3 a2_4) = some r := by rw [if_neg (show ¬ (false = true) by decide)] at H; exact H
    clear H; have H := H1; clear H1
    have H' := Aside0.mk H
    clear H
    go_wp2_with (first | ((with_reducible refine gate_callee (f := 7) rfl ?_); refine goesL_ (some 18) rfl rfl Try.func7 (by kernel_rfl) rfl #[.slice A0 l0.length c0] rfl mp_ ?_; (with_reducible refine (comptrollerlaw09_Few.calls k _ _ l0 false _ ?side1 ?side2 A9.out).mono ?_); (case side1 => repeat (first | exact (Kd.C_below HR0.out HB.out) | (with_reducible refine Kd.C_alloc ?_ _) | (with_reducible refine Kd.C_drewN ?_ _) | (with_reducible refine Kd.C_drew ?_))); (case side2 => exact HC0.out); rintro e w33 ⟨rfl, hb⟩; refine ⟨_, rfl, ?_⟩; have n0_ := Aside0.mk (blk_below (g := gb383) (o := .cells #[.string a2_0, .string a2_1, .string a2_2, .string a2_3, .int .i64 a2_4] 24 (0, 0)) (by (with_reducible repeat (first | refine blk_drewN ?_ _ | refine blk_drew ?_ | refine blk_alloc ?_ _)); exact BK383.out) hb); have n1_ := Aside0.mk (below_step bx hb); clear BK383; clear HB; have BK383 := n0_; have HB := n1_; clear n0_ n1_; (try clear hb); (try clear hb2); (try clear hk); (try clear hi)))
    go_meet
    case rel => exact ⟨_, (true), rs_, H', ⟨by first | omega | exact Nat.le_refl _⟩, ⟨by (with_reducible repeat (first | refine blk_drewN ?_ _ | refine blk_drew ?_ | refine blk_alloc ?_ _)); exact BK383.out⟩, ⟨bx⟩⟩
  case rest =>
   clear HC6; (try clear c1); (try clear p2); (try clear c3); (try clear c5); (try clear c6); (try clear c7); (try clear c10); (try clear c12); (try clear c14); (try clear hcz18_0); (try clear hcz18_1); (try clear hcz18_2); (try clear hcz18_3); (try clear hcz18_4); (try clear hcz26_0); (try clear hcz26_1); (try clear hcz26_2); (try clear hcz26_3); (try clear hcz26_4); (try clear hfz18_0); (try clear hfz18_1); (try clear hfz18_2); (try clear hfz18_3); (try clear hfz18_4); (try clear hfz26_0); (try clear hfz26_1); (try clear hfz26_2); (try clear hfz26_3); (try clear hfz26_4)
   obtain ⟨kq, x36_5, rfl, HA, HJ5, BK383, HB⟩ := hcut
   cases kq with
   | zero => exact absurd HA.out (by simp [comptrollerlaw09_FactCalls.j0])
   | succ kj5 =>
    have H := HA.out; clear HA
    simp only [comptrollerlaw09_FactCalls.j0] at H
    by_cases c34 : x36_5 = true
    ·subst c34
     have H1 : (some true) = some r := by rw [if_pos rfl] at H; exact H
     clear H; have H := H1; clear H1
     obtain rfl := Option.some.inj H
     go_wp2; go_ret
     exact ⟨re_, bx⟩
    ·replace c34 := Bool.eq_false_iff.mpr c34
     subst c34
     have H1 : ((comptrollerlaw09_Theirs.f kj5 l0).bind fun t392 => ((comptrollerlaw09_Theirs.f kj5 l1).bind fun t395 => ((fact_Add.f kj5 t392 t395).bind fun bt398 => ((comptrollerref09_Add.f kj5 l0 l1).bind fun bt402 => ((comptrollerlaw09_Theirs.f kj5 l0).bind fun t406 => ((fact_Sum.f kj5 t406 a2_0 a2_1 a2_2).bind fun bt409 => ((comptrollerref09_Sum.f kj5 l0 a2_0 a2_1 a2_2).bind fun bt411 => ((comptrollerlaw09_Ours.f kj5 bt398.1).bind fun t413 => ((comptrollerref09_Same.f kj5 t413 bt402.1).bind fun t416 => (if t416 = true then (if bt398.2 = bt402.2 then ((comptrollerlaw09_Theirs.f kj5 l0).bind fun t417 => ((fact_Get.f kj5 t417 a2_0 a2_1 a2_2 a2_3 a2_4).bind fun t420 => ((comptrollerref09_Get.f kj5 l0 a2_0 a2_1 a2_2 a2_3 a2_4).bind fun t421 => (if t420 = t421 then (if bt409.1 = bt411.1 then (if bt409.2 = bt411.2 then ((comptrollerlaw09_Theirs.f kj5 l0).bind fun t422 => ((fact_Pick.f kj5 t422 a2_0 a2_4).bind fun t425 => ((comptrollerlaw09_Ours.f kj5 t425).bind fun t428 => ((comptrollerref09_Pick.f kj5 l0 a2_0 a2_4).bind fun t431 => ((comptrollerref09_Same.f kj5 t428 t431).bind fun t434 => (some t434)))))) else (none)) else (none)) else (none))))) else (none)) else (none))))))))))) = some r := by rw [if_neg (show ¬ (false = true) by decide)] at H; exact H
     clear H; have H := H1; clear H1
     replace H := Option.bind_eq_some_iff.mp H
     obtain ⟨t392, A350, H⟩ := H
     replace H : ((comptrollerlaw09_Theirs.f kj5 l1).bind fun t395 => ((fact_Add.f kj5 t392 t395).bind fun bt398 => ((comptrollerref09_Add.f kj5 l0 l1).bind fun bt402 => ((comptrollerlaw09_Theirs.f kj5 l0).bind fun t406 => ((fact_Sum.f kj5 t406 a2_0 a2_1 a2_2).bind fun bt409 => ((comptrollerref09_Sum.f kj5 l0 a2_0 a2_1 a2_2).bind fun bt411 => ((comptrollerlaw09_Ours.f kj5 bt398.1).bind fun t413 => ((comptrollerref09_Same.f kj5 t413 bt402.1).bind fun t416 => (if t416 = true then (if bt398.2 = bt402.2 then ((comptrollerlaw09_Theirs.f kj5 l0).bind fun t417 => ((fact_Get.f kj5 t417 a2_0 a2_1 a2_2 a2_3 a2_4).bind fun t420 => ((comptrollerref09_Get.f kj5 l0 a2_0 a2_1 a2_2 a2_3 a2_4).bind fun t421 => (if t420 = t421 then (if bt409.1 = bt411.1 then (if bt409.2 = bt411.2 then ((comptrollerlaw09_Theirs.f kj5 l0).bind fun t422 => ((fact_Pick.f kj5 t422 a2_0 a2_4).bind fun t425 => ((comptrollerlaw09_Ours.f kj5 t425).bind fun t428 => ((comptrollerref09_Pick.f kj5 l0 a2_0 a2_4).bind fun t431 => ((comptrollerref09_Same.f kj5 t428 t431).bind fun t434 => (some t434)))))) else (none)) else (none)) else (none))))) else (none)) else (none)))))))))) = some r := H
     have A35 := Aside0.mk A350; clear A350
     replace H := Option.bind_eq_some_iff.mp H
     obtain ⟨t395, A360, H⟩ := H
     replace H : ((fact_Add.f kj5 t392 t395).bind fun bt398 => ((comptrollerref09_Add.f kj5 l0 l1).bind fun bt402 => ((comptrollerlaw09_Theirs.f kj5 l0).bind fun t406 => ((fact_Sum.f kj5 t406 a2_0 a2_1 a2_2).bind fun bt409 => ((comptrollerref09_Sum.f kj5 l0 a2_0 a2_1 a2_2).bind fun bt411 => ((comptrollerlaw09_Ours.f kj5 bt398.1).bind fun t413 => ((comptrollerref09_Same.f kj5 t413 bt402.1).bind fun t416 => (if t416 = true then (if bt398.2 = bt402.2 then ((comptrollerlaw09_Theirs.f kj5 l0).bind fun t417 => ((fact_Get.f kj5 t417 a2_0 a2_1 a2_2 a2_3 a2_4).bind fun t420 => ((comptrollerref09_Get.f kj5 l0 a2_0 a2_1 a2_2 a2_3 a2_4).bind fun t421 => (if t420 = t421 then (if bt409.1 = bt411.1 then (if bt409.2 = bt411.2 then ((comptrollerlaw09_Theirs.f kj5 l0).bind fun t422 => ((fact_Pick.f kj5 t422 a2_0 a2_4).bind fun t425 => ((comptrollerlaw09_Ours.f kj5 t425).bind fun t428 => ((comptrollerref09_Pick.f kj5 l0 a2_0 a2_4).bind fun t431 => ((comptrollerref09_Same.f kj5 t428 t431).bind fun t434 => (some t434)))))) else (none)) else (none)) else (none))))) else (none)) else (none))))))))) = some r := H
     have A36 := Aside0.mk A360; clear A360
     replace H := Option.bind_eq_some_iff.mp H
     obtain ⟨⟨t398, t401⟩, A370, H⟩ := H
     replace H : ((comptrollerref09_Add.f kj5 l0 l1).bind fun bt402 => ((comptrollerlaw09_Theirs.f kj5 l0).bind fun t406 => ((fact_Sum.f kj5 t406 a2_0 a2_1 a2_2).bind fun bt409 => ((comptrollerref09_Sum.f kj5 l0 a2_0 a2_1 a2_2).bind fun bt411 => ((comptrollerlaw09_Ours.f kj5 t398).bind fun t413 => ((comptrollerref09_Same.f kj5 t413 bt402.1).bind fun t416 => (if t416 = true then (if t401 = bt402.2 then ((comptrollerlaw09_Theirs.f kj5 l0).bind fun t417 => ((fact_Get.f kj5 t417 a2_0 a2_1 a2_2 a2_3 a2_4).bind fun t420 => ((comptrollerref09_Get.f kj5 l0 a2_0 a2_1 a2_2 a2_3 a2_4).bind fun t421 => (if t420 = t421 then (if bt409.1 = bt411.1 then (if bt409.2 = bt411.2 then ((comptrollerlaw09_Theirs.f kj5 l0).bind fun t422 => ((fact_Pick.f kj5 t422 a2_0 a2_4).bind fun t425 => ((comptrollerlaw09_Ours.f kj5 t425).bind fun t428 => ((comptrollerref09_Pick.f kj5 l0 a2_0 a2_4).bind fun t431 => ((comptrollerref09_Same.f kj5 t428 t431).bind fun t434 => (some t434)))))) else (none)) else (none)) else (none))))) else (none)) else (none)))))))) = some r := H
     have A37 := Aside0.mk A370; clear A370
     replace H := Option.bind_eq_some_iff.mp H
     obtain ⟨⟨t402, t403⟩, A380, H⟩ := H
     replace H : ((comptrollerlaw09_Theirs.f kj5 l0).bind fun t406 => ((fact_Sum.f kj5 t406 a2_0 a2_1 a2_2).bind fun bt409 => ((comptrollerref09_Sum.f kj5 l0 a2_0 a2_1 a2_2).bind fun bt411 => ((comptrollerlaw09_Ours.f kj5 t398).bind fun t413 => ((comptrollerref09_Same.f kj5 t413 t402).bind fun t416 => (if t416 = true then (if t401 = t403 then ((comptrollerlaw09_Theirs.f kj5 l0).bind fun t417 => ((fact_Get.f kj5 t417 a2_0 a2_1 a2_2 a2_3 a2_4).bind fun t420 => ((comptrollerref09_Get.f kj5 l0 a2_0 a2_1 a2_2 a2_3 a2_4).bind fun t421 => (if t420 = t421 then (if bt409.1 = bt411.1 then (if bt409.2 = bt411.2 then ((comptrollerlaw09_Theirs.f kj5 l0).bind fun t422 => ((fact_Pick.f kj5 t422 a2_0 a2_4).bind fun t425 => ((comptrollerlaw09_Ours.f kj5 t425).bind fun t428 => ((comptrollerref09_Pick.f kj5 l0 a2_0 a2_4).bind fun t431 => ((comptrollerref09_Same.f kj5 t428 t431).bind fun t434 => (some t434)))))) else (none)) else (none)) else (none))))) else (none)) else (none))))))) = some r := H
     have A38 := Aside0.mk A380; clear A380
     replace H := Option.bind_eq_some_iff.mp H
     obtain ⟨t406, A390, H⟩ := H
     replace H : ((fact_Sum.f kj5 t406 a2_0 a2_1 a2_2).bind fun bt409 => ((comptrollerref09_Sum.f kj5 l0 a2_0 a2_1 a2_2).bind fun bt411 => ((comptrollerlaw09_Ours.f kj5 t398).bind fun t413 => ((comptrollerref09_Same.f kj5 t413 t402).bind fun t416 => (if t416 = true then (if t401 = t403 then ((comptrollerlaw09_Theirs.f kj5 l0).bind fun t417 => ((fact_Get.f kj5 t417 a2_0 a2_1 a2_2 a2_3 a2_4).bind fun t420 => ((comptrollerref09_Get.f kj5 l0 a2_0 a2_1 a2_2 a2_3 a2_4).bind fun t421 => (if t420 = t421 then (if bt409.1 = bt411.1 then (if bt409.2 = bt411.2 then ((comptrollerlaw09_Theirs.f kj5 l0).bind fun t422 => ((fact_Pick.f kj5 t422 a2_0 a2_4).bind fun t425 => ((comptrollerlaw09_Ours.f kj5 t425).bind fun t428 => ((comptrollerref09_Pick.f kj5 l0 a2_0 a2_4).bind fun t431 => ((comptrollerref09_Same.f kj5 t428 t431).bind fun t434 => (some t434)))))) else (none)) else (none)) else (none))))) else (none)) else (none)))))) = some r := H
     have A39 := Aside0.mk A390; clear A390
     replace H := Option.bind_eq_some_iff.mp H
     obtain ⟨⟨t409, t410⟩, A400, H⟩ := H
     replace H : ((comptrollerref09_Sum.f kj5 l0 a2_0 a2_1 a2_2).bind fun bt411 => ((comptrollerlaw09_Ours.f kj5 t398).bind fun t413 => ((comptrollerref09_Same.f kj5 t413 t402).bind fun t416 => (if t416 = true then (if t401 = t403 then ((comptrollerlaw09_Theirs.f kj5 l0).bind fun t417 => ((fact_Get.f kj5 t417 a2_0 a2_1 a2_2 a2_3 a2_4).bind fun t420 => ((comptrollerref09_Get.f kj5 l0 a2_0 a2_1 a2_2 a2_3 a2_4).bind fun t421 => (if t420 = t421 then (if t409 = bt411.1 then (if t410 = bt411.2 then ((comptrollerlaw09_Theirs.f kj5 l0).bind fun t422 => ((fact_Pick.f kj5 t422 a2_0 a2_4).bind fun t425 => ((comptrollerlaw09_Ours.f kj5 t425).bind fun t428 => ((comptrollerref09_Pick.f kj5 l0 a2_0 a2_4).bind fun t431 => ((comptrollerref09_Same.f kj5 t428 t431).bind fun t434 => (some t434)))))) else (none)) else (none)) else (none))))) else (none)) else (none))))) = some r := H
     have A40 := Aside0.mk A400; clear A400
     replace H := Option.bind_eq_some_iff.mp H
     obtain ⟨⟨t411, t412⟩, A410, H⟩ := H
     replace H : ((comptrollerlaw09_Ours.f kj5 t398).bind fun t413 => ((comptrollerref09_Same.f kj5 t413 t402).bind fun t416 => (if t416 = true then (if t401 = t403 then ((comptrollerlaw09_Theirs.f kj5 l0).bind fun t417 => ((fact_Get.f kj5 t417 a2_0 a2_1 a2_2 a2_3 a2_4).bind fun t420 => ((comptrollerref09_Get.f kj5 l0 a2_0 a2_1 a2_2 a2_3 a2_4).bind fun t421 => (if t420 = t421 then (if t409 = t411 then (if t410 = t412 then ((comptrollerlaw09_Theirs.f kj5 l0).bind fun t422 => ((fact_Pick.f kj5 t422 a2_0 a2_4).bind fun t425 => ((comptrollerlaw09_Ours.f kj5 t425).bind fun t428 => ((comptrollerref09_Pick.f kj5 l0 a2_0 a2_4).bind fun t431 => ((comptrollerref09_Same.f kj5 t428 t431).bind fun t434 => (some t434)))))) else (none)) else (none)) else (none))))) else (none)) else (none)))) = some r := H
     have A41 := Aside0.mk A410; clear A410
     replace H := Option.bind_eq_some_iff.mp H
     obtain ⟨t413, A420, H⟩ := H
     replace H : ((comptrollerref09_Same.f kj5 t413 t402).bind fun t416 => (if t416 = true then (if t401 = t403 then ((comptrollerlaw09_Theirs.f kj5 l0).bind fun t417 => ((fact_Get.f kj5 t417 a2_0 a2_1 a2_2 a2_3 a2_4).bind fun t420 => ((comptrollerref09_Get.f kj5 l0 a2_0 a2_1 a2_2 a2_3 a2_4).bind fun t421 => (if t420 = t421 then (if t409 = t411 then (if t410 = t412 then ((comptrollerlaw09_Theirs.f kj5 l0).bind fun t422 => ((fact_Pick.f kj5 t422 a2_0 a2_4).bind fun t425 => ((comptrollerlaw09_Ours.f kj5 t425).bind fun t428 => ((comptrollerref09_Pick.f kj5 l0 a2_0 a2_4).bind fun t431 => ((comptrollerref09_Same.f kj5 t428 t431).bind fun t434 => (some t434)))))) else (none)) else (none)) else (none))))) else (none)) else (none))) = some r := H
     have A42 := Aside0.mk A420; clear A420
     replace H := Option.bind_eq_some_iff.mp H
     obtain ⟨t416, A430, H⟩ := H
     replace H : (if t416 = true then (if t401 = t403 then ((comptrollerlaw09_Theirs.f kj5 l0).bind fun t417 => ((fact_Get.f kj5 t417 a2_0 a2_1 a2_2 a2_3 a2_4).bind fun t420 => ((comptrollerref09_Get.f kj5 l0 a2_0 a2_1 a2_2 a2_3 a2_4).bind fun t421 => (if t420 = t421 then (if t409 = t411 then (if t410 = t412 then ((comptrollerlaw09_Theirs.f kj5 l0).bind fun t422 => ((fact_Pick.f kj5 t422 a2_0 a2_4).bind fun t425 => ((comptrollerlaw09_Ours.f kj5 t425).bind fun t428 => ((comptrollerref09_Pick.f kj5 l0 a2_0 a2_4).bind fun t431 => ((comptrollerref09_Same.f kj5 t428 t431).bind fun t434 => (some t434)))))) else (none)) else (none)) else (none))))) else (none)) else (none)) = some r := H
     have A43 := Aside0.mk A430; clear A430
     by_cases c44 : t416 = true
     ·subst c44
      have H1 : (if t401 = t403 then ((comptrollerlaw09_Theirs.f kj5 l0).bind fun t417 => ((fact_Get.f kj5 t417 a2_0 a2_1 a2_2 a2_3 a2_4).bind fun t420 => ((comptrollerref09_Get.f kj5 l0 a2_0 a2_1 a2_2 a2_3 a2_4).bind fun t421 => (if t420 = t421 then (if t409 = t411 then (if t410 = t412 then ((comptrollerlaw09_Theirs.f kj5 l0).bind fun t422 => ((fact_Pick.f kj5 t422 a2_0 a2_4).bind fun t425 => ((comptrollerlaw09_Ours.f kj5 t425).bind fun t428 => ((comptrollerref09_Pick.f kj5 l0 a2_0 a2_4).bind fun t431 => ((comptrollerref09_Same.f kj5 t428 t431).bind fun t434 => (some t434)))))) else (none)) else (none)) else (none))))) else (none)) = some r := by rw [if_pos rfl] at H; exact H
      clear H; have H := H1; clear H1
      by_cases c45 : t401 = t403
      ·rw [if_pos c45] at H
       have c45b0 : (t401 == t403) = true := beq_iff_eq.mpr c45
       have c45b1 : (t401 != t403) = false := bne_eq_false_iff_eq.mpr c45
       clear c45
       replace H := Option.bind_eq_some_iff.mp H
       obtain ⟨t417, A460, H⟩ := H
       replace H : ((fact_Get.f kj5 t417 a2_0 a2_1 a2_2 a2_3 a2_4).bind fun t420 => ((comptrollerref09_Get.f kj5 l0 a2_0 a2_1 a2_2 a2_3 a2_4).bind fun t421 => (if t420 = t421 then (if t409 = t411 then (if t410 = t412 then ((comptrollerlaw09_Theirs.f kj5 l0).bind fun t422 => ((fact_Pick.f kj5 t422 a2_0 a2_4).bind fun t425 => ((comptrollerlaw09_Ours.f kj5 t425).bind fun t428 => ((comptrollerref09_Pick.f kj5 l0 a2_0 a2_4).bind fun t431 => ((comptrollerref09_Same.f kj5 t428 t431).bind fun t434 => (some t434)))))) else (none)) else (none)) else (none)))) = some r := H
       have A46 := Aside0.mk A460; clear A460
       replace H := Option.bind_eq_some_iff.mp H
       obtain ⟨t420, A470, H⟩ := H
       replace H : ((comptrollerref09_Get.f kj5 l0 a2_0 a2_1 a2_2 a2_3 a2_4).bind fun t421 => (if t420 = t421 then (if t409 = t411 then (if t410 = t412 then ((comptrollerlaw09_Theirs.f kj5 l0).bind fun t422 => ((fact_Pick.f kj5 t422 a2_0 a2_4).bind fun t425 => ((comptrollerlaw09_Ours.f kj5 t425).bind fun t428 => ((comptrollerref09_Pick.f kj5 l0 a2_0 a2_4).bind fun t431 => ((comptrollerref09_Same.f kj5 t428 t431).bind fun t434 => (some t434)))))) else (none)) else (none)) else (none))) = some r := H
       have A47 := Aside0.mk A470; clear A470
       replace H := Option.bind_eq_some_iff.mp H
       obtain ⟨t421, A480, H⟩ := H
       replace H : (if t420 = t421 then (if t409 = t411 then (if t410 = t412 then ((comptrollerlaw09_Theirs.f kj5 l0).bind fun t422 => ((fact_Pick.f kj5 t422 a2_0 a2_4).bind fun t425 => ((comptrollerlaw09_Ours.f kj5 t425).bind fun t428 => ((comptrollerref09_Pick.f kj5 l0 a2_0 a2_4).bind fun t431 => ((comptrollerref09_Same.f kj5 t428 t431).bind fun t434 => (some t434)))))) else (none)) else (none)) else (none)) = some r := H
       have A48 := Aside0.mk A480; clear A480
       by_cases c49 : t420 = t421
       ·rw [if_pos c49] at H
        have c49b0 : (t420 == t421) = true := beq_iff_eq.mpr c49
        have c49b1 : (t420 != t421) = false := bne_eq_false_iff_eq.mpr c49
        clear c49
        by_cases c50 : t409 = t411
        ·rw [if_pos c50] at H
         have c50b0 : (t409 == t411) = true := beq_iff_eq.mpr c50
         have c50b1 : (t409 != t411) = false := bne_eq_false_iff_eq.mpr c50
         clear c50
         by_cases c51 : t410 = t412
         ·rw [if_pos c51] at H
          have c51b0 : (t410 == t412) = true := beq_iff_eq.mpr c51
          have c51b1 : (t410 != t412) = false := bne_eq_false_iff_eq.mpr c51
          clear c51
          replace H := Option.bind_eq_some_iff.mp H
          obtain ⟨t422, A520, H⟩ := H
          replace H : ((fact_Pick.f kj5 t422 a2_0 a2_4).bind fun t425 => ((comptrollerlaw09_Ours.f kj5 t425).bind fun t428 => ((comptrollerref09_Pick.f kj5 l0 a2_0 a2_4).bind fun t431 => ((comptrollerref09_Same.f kj5 t428 t431).bind fun t434 => (some t434))))) = some r := H
          have A52 := Aside0.mk A520; clear A520
          replace H := Option.bind_eq_some_iff.mp H
          obtain ⟨t425, A530, H⟩ := H
          replace H : ((comptrollerlaw09_Ours.f kj5 t425).bind fun t428 => ((comptrollerref09_Pick.f kj5 l0 a2_0 a2_4).bind fun t431 => ((comptrollerref09_Same.f kj5 t428 t431).bind fun t434 => (some t434)))) = some r := H
          have A53 := Aside0.mk A530; clear A530
          replace H := Option.bind_eq_some_iff.mp H
          obtain ⟨t428, A540, H⟩ := H
          replace H : ((comptrollerref09_Pick.f kj5 l0 a2_0 a2_4).bind fun t431 => ((comptrollerref09_Same.f kj5 t428 t431).bind fun t434 => (some t434))) = some r := H
          have A54 := Aside0.mk A540; clear A540
          replace H := Option.bind_eq_some_iff.mp H
          obtain ⟨t431, A550, H⟩ := H
          replace H : ((comptrollerref09_Same.f kj5 t428 t431).bind fun t434 => (some t434)) = some r := H
          have A55 := Aside0.mk A550; clear A550
          replace H := Option.bind_eq_some_iff.mp H
          obtain ⟨t434, A560, H⟩ := H
          replace H : (some t434) = some r := H
          have A56 := Aside0.mk A560; clear A560
          obtain rfl := Option.some.inj H
          try go_wp2_with (first | ((with_reducible refine gate_callee (f := 10) rfl ?_); refine goesL_ (some 39) rfl rfl Try.func10 (by kernel_rfl) rfl #[.slice A0 l0.length c0] rfl mp_ ?_; (with_reducible refine (comptrollerlaw09_Theirs.calls kj5 _ _ l0 t392 _ ?side1 ?side2 A35.out).mono ?_); (case side1 => repeat (first | exact (Kd.C_below HR0.out HB.out) | (with_reducible refine Kd.C_alloc ?_ _) | (with_reducible refine Kd.C_drewN ?_ _) | (with_reducible refine Kd.C_drew ?_))); (case side2 => exact HC0.out); rintro e w57 ⟨v393, rfl, ho0, hb⟩; refine ⟨_, rfl, ?_⟩; have n0_ := Aside0.mk (Kd.R_lower ho0 (below_size bx)); have n1_ := Aside0.mk (blk_below (g := gb383) (o := .cells #[.string a2_0, .string a2_1, .string a2_2, .string a2_3, .int .i64 a2_4] 24 (0, 0)) (by (with_reducible repeat (first | refine blk_drewN ?_ _ | refine blk_drew ?_ | refine blk_alloc ?_ _)); exact BK383.out) hb); have n2_ := Aside0.mk (below_step bx hb); clear BK383; clear HB; have HO394 := n0_; have BK383 := n1_; have HB := n2_; clear n0_ n1_ n2_; (try clear hb); (try clear hb2); (try clear hk); (try clear hi); (try clear ho0)) | ((with_reducible refine gate_callee (f := 10) rfl ?_); refine goesL_ (some 41) rfl rfl Try.func10 (by kernel_rfl) rfl #[.slice A1 l1.length c1] rfl mp_ ?_; (with_reducible refine (comptrollerlaw09_Theirs.calls kj5 _ _ l1 t395 _ ?side1 ?side2 A36.out).mono ?_); (case side1 => repeat (first | exact (Kd.C_below HR1.out HB.out) | (with_reducible refine Kd.C_alloc ?_ _) | (with_reducible refine Kd.C_drewN ?_ _) | (with_reducible refine Kd.C_drew ?_))); (case side2 => exact HC1.out); rintro e w58 ⟨v396, rfl, ho0, hb⟩; refine ⟨_, rfl, ?_⟩; have n0_ := Aside0.mk (Kd.R_elder' (kr HO394) (Kd.R_base ho0) hb); have n1_ := Aside0.mk (Kd.R_lower (Kd.R_new' ho0 (Kd.R_lt (kr HO394))) (below_size bx)); have n2_ := Aside0.mk (blk_below (g := gb383) (o := .cells #[.string a2_0, .string a2_1, .string a2_2, .string a2_3, .int .i64 a2_4] 24 (0, 0)) (by (with_reducible repeat (first | refine blk_drewN ?_ _ | refine blk_drew ?_ | refine blk_alloc ?_ _)); exact BK383.out) hb); have n3_ := Aside0.mk (below_step bx hb); clear HO394; clear BK383; clear HB; have HO394 := n0_; have HO397 := n1_; have BK383 := n2_; have HB := n3_; clear n0_ n1_ n2_ n3_; (try clear hb); (try clear hb2); (try clear hk); (try clear hi); (try clear ho0); obtain ⟨Ao59, co59, eo59⟩ := Kd.R_slice HO394.out; subst eo59; obtain ⟨Ao60, co60, eo60⟩ := Kd.R_slice HO397.out; subst eo60) | ((with_reducible refine gate_callee (f := 9) rfl ?_); refine goesL_ (some 42) rfl rfl Try.func9 (by kernel_rfl) rfl #[.slice Ao59 t392.length co59, .slice Ao60 t395.length co60] rfl mp_ ?_; (with_reducible refine (fact_Add.calls kj5 (fun k_ => some k_ = (.slice Ao59 t392.length co59 : Value).ownBlock) _ _ t392 (fun k_ => some k_ = (.slice Ao60 t395.length co60 : Value).ownBlock) _ _ t395 t398 t401 _ ?side1 ?side2 A37.out).mono ?_); (case side1 => exact Kd.R_V (Kd.R_tight rfl (Kd.R_types (HO394.out) BK383.out (by decide)))); (case side2 => exact Kd.R_V (Kd.R_tight rfl (Kd.R_types (HO397.out) BK383.out (by decide)))); rintro e w61 ⟨v399, rfl, ho0, hb⟩; refine ⟨_, rfl, ?_⟩; have n0_ := Aside0.mk (Kd.R_elder' (kr HO394) (Kd.R_base ho0) hb); have n1_ := Aside0.mk (Kd.R_elder' (kr HO397) (Kd.R_base ho0) hb); have n2_ := Aside0.mk (Kd.R_lower (Kd.R_new' (Kd.R_new' (Kd.R_mono (ok' := fun k_ => True) ho0 (fun _ hk_ => trivial)) (Kd.R_lt (kr HO394))) (Kd.R_lt (kr HO397))) (below_size bx)); have n3_ := Aside0.mk (blk_below (g := gb383) (o := .cells #[.string a2_0, .string a2_1, .string a2_2, .string a2_3, .int .i64 a2_4] 24 (0, 0)) (by (with_reducible repeat (first | refine blk_drewN ?_ _ | refine blk_drew ?_ | refine blk_alloc ?_ _)); exact BK383.out) hb); have n4_ := Aside0.mk (below_step bx hb); clear HO394; clear HO397; clear BK383; clear HB; have HO394 := n0_; have HO397 := n1_; have HO400 := n2_; have BK383 := n3_; have HB := n4_; clear n0_ n1_ n2_ n3_ n4_; (try clear hb); (try clear hb2); (try clear hk); (try clear hi); (try clear ho0)) | ((with_reducible refine gate_callee (f := 11) rfl ?_); refine goesL_ (some 48) rfl rfl Try.func11 (by kernel_rfl) rfl #[.slice A0 l0.length c0, .slice A1 l1.length c1] rfl mp_ ?_; (with_reducible refine (comptrollerref09_Add.calls kj5 _ _ l0 _ _ l1 t402 t403 _ ?side1 ?side2 ?side3 ?side4 A38.out).mono ?_); (case side1 => repeat (first | exact (Kd.C_below HR0.out HB.out) | (with_reducible refine Kd.C_alloc ?_ _) | (with_reducible refine Kd.C_drewN ?_ _) | (with_reducible refine Kd.C_drew ?_))); (case side2 => exact HC0.out); (case side3 => repeat (first | exact (Kd.C_below HR1.out HB.out) | (with_reducible refine Kd.C_alloc ?_ _) | (with_reducible refine Kd.C_drewN ?_ _) | (with_reducible refine Kd.C_drew ?_))); (case side4 => exact HC1.out); rintro e w62 ⟨v404, rfl, ho0, hb⟩; refine ⟨_, rfl, ?_⟩; have n0_ := Aside0.mk (Kd.R_below (kr HO394) hb); have n1_ := Aside0.mk (Kd.R_below (kr HO397) hb); have n2_ := Aside0.mk (Kd.R_below (kr HO400) hb); have n3_ := Aside0.mk (Kd.R_lower ho0 (below_size bx)); have n4_ := Aside0.mk (blk_below (g := gb383) (o := .cells #[.string a2_0, .string a2_1, .string a2_2, .string a2_3, .int .i64 a2_4] 24 (0, 0)) (by (with_reducible repeat (first | refine blk_drewN ?_ _ | refine blk_drew ?_ | refine blk_alloc ?_ _)); exact BK383.out) hb); have n5_ := Aside0.mk (below_step bx hb); clear HO394; clear HO397; clear HO400; clear BK383; clear HB; have HO394 := n0_; have HO397 := n1_; have HO400 := n2_; have HO405 := n3_; have BK383 := n4_; have HB := n5_; clear n0_ n1_ n2_ n3_ n4_ n5_; (try clear hb); (try clear hb2); (try clear hk); (try clear hi); (try clear ho0)))
          have n0_ := Aside0.mk (Kd.R_drew HO394.out)
          have n1_ := Aside0.mk (Kd.R_drew HO397.out)
          have n2_ := Aside0.mk (Kd.R_drew HO400.out)
          have n3_ := Aside0.mk (Kd.R_drew HO405.out)
          have n4_ := Aside0.mk (blk_drew BK383.out)
          have n5_ := Aside0.mk (below_drew1 HB.out)
          clear HO394 HO397 HO400 HO405 BK383 HB; have HO394 := n0_; have HO397 := n1_; have HO400 := n2_; have HO405 := n3_; have BK383 := n4_; have HB := n5_; clear n0_ n1_ n2_ n3_ n4_ n5_
          refine start_ (n := 14) (S := fun w' => w'.cell? ⟨gb383, 0, none⟩ = some (.string a2_0) ∧ w'.cell? ⟨gb383, 1, none⟩ = some (.string a2_1) ∧ w'.cell? ⟨gb383, 2, none⟩ = some (.string a2_2) ∧ w'.cell? ⟨gb383, 3, none⟩ = some (.string a2_3) ∧ w'.cell? ⟨gb383, 4, none⟩ = some (.int .i64 a2_4)) (ds := []) (fl 14 0) (by kernel_rfl) rfl rfl ⟨(blk_cell BK383.out 0).trans rfl, (blk_cell BK383.out 1).trans rfl, (blk_cell BK383.out 2).trans rfl, (blk_cell BK383.out 3).trans rfl, (blk_cell BK383.out 4).trans rfl⟩ (fun hHeld => ?_); refine with_tabW comptrollerlaw09_FactCalls.tab7 comptrollerlaw09_FactCalls.bits7 (fun HT_ HW_ => ?_)
          generalize w62.drew = w63 at HO394 HO397 HO400 HO405 BK383 HB hHeld ⊢
          refine pu 0 (some 52) (fl 14 1) HT_ ?_
          refine pu 2 (some 54) (fl 14 5) HT_ ?_
          refine pu 4 (some 56) (fl 14 21) HT_ ?_
          refine pu 6 (some 58) (fl 14 85) HT_ ?_
          refine tu 3 (some 55) (fl 14 93) HT_ HW_ hHeld ?_
          refine tu 5 (some 57) (fl 14 125) HT_ HW_ hHeld ?_
          refine tu 7 (some 59) (fl 14 253) HT_ HW_ hHeld ?_
          refine one_ (i := 1) (N := some 53) (fl 14 255) rfl rfl (one_of HT_.out (by kernel_rfl)) (by decide) (fun K hK => ?_)
          refine goes_ Try.func10 (by kernel_rfl) rfl #[.slice A0 l0.length c0] (by rfl) rfl rfl mp_ ?_
          with_reducible refine (comptrollerlaw09_Theirs.calls kj5 _ _ l0 t406 _ ?side1 ?side2 A39.out).mono ?_
          (case side1 => repeat (first | exact (Kd.C_below HR0.out HB.out) | (with_reducible refine Kd.C_alloc ?_ _) | (with_reducible refine Kd.C_drewN ?_ _) | (with_reducible refine Kd.C_drew ?_)))
          (case side2 => exact HC0.out)
          rintro e w64 ⟨v407, rfl, ho0, hb⟩
          refine ⟨_, rfl, ?_⟩
          have n0_ := Aside0.mk (Kd.R_elder' (kr HO394) (Kd.R_base ho0) hb)
          have n1_ := Aside0.mk (Kd.R_elder' (kr HO397) (Kd.R_base ho0) hb)
          have n2_ := Aside0.mk (Kd.R_elder' (kr HO400) (Kd.R_base ho0) hb)
          have n3_ := Aside0.mk (Kd.R_below (kr HO405) hb)
          have n4_ := Aside0.mk (Kd.R_lower (Kd.R_new' (Kd.R_new' (Kd.R_new' ho0 (Kd.R_lt (kr HO394))) (Kd.R_lt (kr HO397))) (Kd.R_lt (kr HO400))) (below_size bx))
          have n5_ := Aside0.mk (blk_below (g := gb383) (o := .cells #[.string a2_0, .string a2_1, .string a2_2, .string a2_3, .int .i64 a2_4] 24 (0, 0)) (by (with_reducible repeat (first | refine blk_drewN ?_ _ | refine blk_drew ?_ | refine blk_alloc ?_ _)); exact BK383.out) hb)
          have n6_ := Aside0.mk (below_step bx hb)
          clear HO394 HO397 HO400 HO405 BK383 HB; have HO394 := n0_; have HO397 := n1_; have HO400 := n2_; have HO405 := n3_; have HO408 := n4_; have BK383 := n5_; have HB := n6_; clear n0_ n1_ n2_ n3_ n4_ n5_ n6_
          (try clear hb)
          (try clear hb2)
          (try clear hk)
          (try clear hi)
          (try clear ho0)
          obtain ⟨Ao65, co65, eo65⟩ := Kd.R_slice HO408.out
          (first | subst eo65 | (injection eo65 with f1_ f2_ f3_; have f4_ := f1_.symm; have f5_ := f3_.symm; clear f1_ f2_ f3_; subst f4_; subst f5_))
          refine hK.out _ _ ⟨(blk_cell BK383.out 0).trans rfl, (blk_cell BK383.out 1).trans rfl, (blk_cell BK383.out 2).trans rfl, (blk_cell BK383.out 3).trans rfl, (blk_cell BK383.out 4).trans rfl⟩ (fun hHeld => ?_)
          clear hK K
          refine norm_ (a' := ?_) ?_ ?_
          rotate_left
          ·show Act.put _ (some 53) _ = _
           simp only [Act.put, List.setIfInBounds_toArray, List.set_cons_zero, List.set_cons_succ, i64_w, i32_w]
           rfl
          refine one_ (i := 8) (N := some 60) (fl 14 511) rfl rfl (one_of HT_.out (by kernel_rfl)) (by decide) (fun K hK => ?_)
          refine goes_ Try.func12 (by kernel_rfl) rfl #[.slice Ao65 t406.length co65, .string a2_0, .string a2_1, .string a2_2] (by rfl) rfl rfl mp_ ?_
          with_reducible refine (fact_Sum.calls kj5 _ _ t406 a2_0 a2_1 a2_2 t409 t410 _ ?side1 ?side2 A40.out).mono ?_
          (case side1 => repeat (first | exact (Kd.R_reads' HO408.out).2.2 | (with_reducible refine Kd.C_alloc ?_ _) | (with_reducible refine Kd.C_drewN ?_ _) | (with_reducible refine Kd.C_drew ?_)))
          (case side2 => exact (Kd.R_reads' HO408.out).2.1)
          rintro e w66 ⟨rfl, hb⟩
          refine ⟨_, rfl, ?_⟩
          have n0_ := Aside0.mk (Kd.R_below (kr HO394) hb)
          have n1_ := Aside0.mk (Kd.R_below (kr HO397) hb)
          have n2_ := Aside0.mk (Kd.R_below (kr HO400) hb)
          have n3_ := Aside0.mk (Kd.R_below (kr HO405) hb)
          have n4_ := Aside0.mk (Kd.R_below (kr HO408) hb)
          have n5_ := Aside0.mk (blk_below (g := gb383) (o := .cells #[.string a2_0, .string a2_1, .string a2_2, .string a2_3, .int .i64 a2_4] 24 (0, 0)) (by (with_reducible repeat (first | refine blk_drewN ?_ _ | refine blk_drew ?_ | refine blk_alloc ?_ _)); exact BK383.out) hb)
          have n6_ := Aside0.mk (below_step bx hb)
          clear HO394 HO397 HO400 HO405 HO408 BK383 HB; have HO394 := n0_; have HO397 := n1_; have HO400 := n2_; have HO405 := n3_; have HO408 := n4_; have BK383 := n5_; have HB := n6_; clear n0_ n1_ n2_ n3_ n4_ n5_ n6_
          (try clear hb)
          (try clear hb2)
          (try clear hk)
          (try clear hi)
          refine hK.out _ _ ⟨(blk_cell BK383.out 0).trans rfl, (blk_cell BK383.out 1).trans rfl, (blk_cell BK383.out 2).trans rfl, (blk_cell BK383.out 3).trans rfl, (blk_cell BK383.out 4).trans rfl⟩ (fun hHeld => ?_)
          clear hK K
          refine norm_ (a' := ?_) ?_ ?_
          rotate_left
          ·show Act.put _ (some 60) _ = _
           simp only [Act.put, List.setIfInBounds_toArray, List.set_cons_zero, List.set_cons_succ, i64_w, i32_w]
           rfl
          refine pu 9 (some 51) (fl 14 1023) HT_ ?_
          refine pu 10 (some 61) (fl 14 2047) HT_ ?_
          refine pu 11 (some 62) (fl 14 4095) HT_ ?_
          refine pu 12 (some 11) (fl 14 8191) HT_ ?_
          refine pu 13 (some 12) (fl 14 16383) HT_ ?_
          refine done_ (done_of HT_.out (by kernel_rfl)) ?_
          have hcz67_0 : w66.cell? ⟨gb383, 0, none⟩ = some (.string a2_0) := (blk_cell BK383.out 0).trans rfl
          have hcz67_1 : w66.cell? ⟨gb383, 1, none⟩ = some (.string a2_1) := (blk_cell BK383.out 1).trans rfl
          have hcz67_2 : w66.cell? ⟨gb383, 2, none⟩ = some (.string a2_2) := (blk_cell BK383.out 2).trans rfl
          have hcz67_3 : w66.cell? ⟨gb383, 3, none⟩ = some (.string a2_3) := (blk_cell BK383.out 3).trans rfl
          have hcz67_4 : w66.cell? ⟨gb383, 4, none⟩ = some (.int .i64 a2_4) := (blk_cell BK383.out 4).trans rfl
          have hfz67_0 := blk_frozen BK383.out 0
          have hfz67_1 := blk_frozen BK383.out 1
          have hfz67_2 := blk_frozen BK383.out 2
          have hfz67_3 := blk_frozen BK383.out 3
          have hfz67_4 := blk_frozen BK383.out 4
          try go_wp2_with (first | ((with_reducible refine gate_callee (f := 13) rfl ?_); refine goesL_ (some 71) rfl rfl Try.func13 (by kernel_rfl) rfl #[.slice A0 l0.length c0, .string a2_0, .string a2_1, .string a2_2] rfl mp_ ?_; (with_reducible refine (comptrollerref09_Sum.calls kj5 _ _ l0 a2_0 a2_1 a2_2 t411 t412 _ ?side1 ?side2 A41.out).mono ?_); (case side1 => repeat (first | exact (Kd.C_below HR0.out HB.out) | (with_reducible refine Kd.C_alloc ?_ _) | (with_reducible refine Kd.C_drewN ?_ _) | (with_reducible refine Kd.C_drew ?_))); (case side2 => exact HC0.out); rintro e w68 ⟨rfl, hb⟩; refine ⟨_, rfl, ?_⟩; have n0_ := Aside0.mk (Kd.R_below (kr HO394) hb); have n1_ := Aside0.mk (Kd.R_below (kr HO397) hb); have n2_ := Aside0.mk (Kd.R_below (kr HO400) hb); have n3_ := Aside0.mk (Kd.R_below (kr HO405) hb); have n4_ := Aside0.mk (Kd.R_below (kr HO408) hb); have n5_ := Aside0.mk (blk_below (g := gb383) (o := .cells #[.string a2_0, .string a2_1, .string a2_2, .string a2_3, .int .i64 a2_4] 24 (0, 0)) (by (with_reducible repeat (first | refine blk_drewN ?_ _ | refine blk_drew ?_ | refine blk_alloc ?_ _)); exact BK383.out) hb); have n6_ := Aside0.mk (below_step bx hb); clear HO394; clear HO397; clear HO400; clear HO405; clear HO408; clear BK383; clear HB; have HO394 := n0_; have HO397 := n1_; have HO400 := n2_; have HO405 := n3_; have HO408 := n4_; have BK383 := n5_; have HB := n6_; clear n0_ n1_ n2_ n3_ n4_ n5_ n6_; (try clear hb); (try clear hb2); (try clear hk); (try clear hi)))
          have n0_ := Aside0.mk (Kd.R_drew HO394.out)
          have n1_ := Aside0.mk (Kd.R_drew HO397.out)
          have n2_ := Aside0.mk (Kd.R_drew HO400.out)
          have n3_ := Aside0.mk (Kd.R_drew HO405.out)
          have n4_ := Aside0.mk (Kd.R_drew HO408.out)
          have n5_ := Aside0.mk (blk_drew BK383.out)
          have n6_ := Aside0.mk (below_drew1 HB.out)
          clear HO394 HO397 HO400 HO405 HO408 BK383 HB; have HO394 := n0_; have HO397 := n1_; have HO400 := n2_; have HO405 := n3_; have HO408 := n4_; have BK383 := n5_; have HB := n6_; clear n0_ n1_ n2_ n3_ n4_ n5_ n6_
          obtain ⟨Ao70, co70, eo70⟩ := Kd.R_slice HO400.out
          (first | subst eo70 | (injection eo70 with f1_ f2_ f3_; have f4_ := f1_.symm; have f5_ := f3_.symm; clear f1_ f2_ f3_; subst f4_; subst f5_))
          refine start_ (n := 47) (S := fun w' => w'.cell? ⟨gb383, 0, none⟩ = some (.string a2_0) ∧ w'.cell? ⟨gb383, 1, none⟩ = some (.string a2_1) ∧ w'.cell? ⟨gb383, 2, none⟩ = some (.string a2_2) ∧ w'.cell? ⟨gb383, 3, none⟩ = some (.string a2_3) ∧ w'.cell? ⟨gb383, 4, none⟩ = some (.int .i64 a2_4)) (ds := []) (fl 47 0) (by kernel_rfl) rfl rfl ⟨(blk_cell BK383.out 0).trans rfl, (blk_cell BK383.out 1).trans rfl, (blk_cell BK383.out 2).trans rfl, (blk_cell BK383.out 3).trans rfl, (blk_cell BK383.out 4).trans rfl⟩ (fun hHeld => ?_); refine with_tabW comptrollerlaw09_FactCalls.tab9 comptrollerlaw09_FactCalls.bits9 (fun HT_ HW_ => ?_)
          generalize w68.drew = w69 at HO394 HO397 HO400 HO405 HO408 BK383 HB hHeld ⊢
          refine pu 0 (some 74) (fl 47 1) HT_ ?_
          refine pu 2 (some 76) (fl 47 5) HT_ ?_
          refine one_ (i := 1) (N := some 75) (fl 47 7) rfl rfl (one_of HT_.out (by kernel_rfl)) (by decide) (fun K hK => ?_)
          refine goes_ Try.func15 (by kernel_rfl) rfl #[.slice Ao70 t398.length co70] (by rfl) rfl rfl mp_ ?_
          with_reducible refine (comptrollerlaw09_Ours.calls kj5 _ _ t398 t413 _ ?side1 ?side2 A42.out).mono ?_
          (case side1 => repeat (first | exact (Kd.R_reads' HO400.out).2.2 | (with_reducible refine Kd.C_alloc ?_ _) | (with_reducible refine Kd.C_drewN ?_ _) | (with_reducible refine Kd.C_drew ?_)))
          (case side2 => exact (Kd.R_reads' HO400.out).2.1)
          rintro e w71 ⟨v414, rfl, ho0, hb⟩
          refine ⟨_, rfl, ?_⟩
          have n0_ := Aside0.mk (Kd.R_below (kr HO394) hb)
          have n1_ := Aside0.mk (Kd.R_below (kr HO397) hb)
          have n2_ := Aside0.mk (Kd.R_below (kr HO400) hb)
          have n3_ := Aside0.mk (Kd.R_elder' (kr HO405) (Kd.R_base ho0) hb)
          have n4_ := Aside0.mk (Kd.R_below (kr HO408) hb)
          have n5_ := Aside0.mk (Kd.R_lower (Kd.R_new' ho0 (Kd.R_lt (kr HO405))) (below_size bx))
          have n6_ := Aside0.mk (blk_below (g := gb383) (o := .cells #[.string a2_0, .string a2_1, .string a2_2, .string a2_3, .int .i64 a2_4] 24 (0, 0)) (by (with_reducible repeat (first | refine blk_drewN ?_ _ | refine blk_drew ?_ | refine blk_alloc ?_ _)); exact BK383.out) hb)
          have n7_ := Aside0.mk (below_step bx hb)
          clear HO394 HO397 HO400 HO405 HO408 BK383 HB; have HO394 := n0_; have HO397 := n1_; have HO400 := n2_; have HO405 := n3_; have HO408 := n4_; have HO415 := n5_; have BK383 := n6_; have HB := n7_; clear n0_ n1_ n2_ n3_ n4_ n5_ n6_ n7_
          (try clear hb)
          (try clear hb2)
          (try clear hk)
          (try clear hi)
          (try clear ho0)
          obtain ⟨Ao72, co72, eo72⟩ := Kd.R_slice HO415.out
          (first | subst eo72 | (injection eo72 with f1_ f2_ f3_; have f4_ := f1_.symm; have f5_ := f3_.symm; clear f1_ f2_ f3_; subst f4_; subst f5_))
          obtain ⟨Ao73, co73, eo73⟩ := Kd.R_slice HO405.out
          (first | subst eo73 | (injection eo73 with f1_ f2_ f3_; have f4_ := f1_.symm; have f5_ := f3_.symm; clear f1_ f2_ f3_; subst f4_; subst f5_))
          refine hK.out _ _ ⟨(blk_cell BK383.out 0).trans rfl, (blk_cell BK383.out 1).trans rfl, (blk_cell BK383.out 2).trans rfl, (blk_cell BK383.out 3).trans rfl, (blk_cell BK383.out 4).trans rfl⟩ (fun hHeld => ?_)
          clear hK K
          refine norm_ (a' := ?_) ?_ ?_
          rotate_left
          ·show Act.put _ (some 75) _ = _
           simp only [Act.put, List.setIfInBounds_toArray, List.set_cons_zero, List.set_cons_succ, i64_w, i32_w]
           rfl
          refine one_ (i := 3) (N := some 77) (fl 47 15) rfl rfl (one_of HT_.out (by kernel_rfl)) (by decide) (fun K hK => ?_)
          refine goes_ Try.func14 (by kernel_rfl) rfl #[.slice Ao72 t413.length co72, .slice Ao73 t402.length co73] (by rfl) rfl rfl mp_ ?_
          with_reducible refine (comptrollerref09_Same.calls kj5 _ _ t413 _ _ t402 true _ ?side1 ?side2 ?side3 ?side4 A43.out).mono ?_
          (case side1 => repeat (first | exact (Kd.R_reads' HO415.out).2.2 | (with_reducible refine Kd.C_alloc ?_ _) | (with_reducible refine Kd.C_drewN ?_ _) | (with_reducible refine Kd.C_drew ?_)))
          (case side2 => exact (Kd.R_reads' HO415.out).2.1)
          (case side3 => repeat (first | exact (Kd.R_reads' HO405.out).2.2 | (with_reducible refine Kd.C_alloc ?_ _) | (with_reducible refine Kd.C_drewN ?_ _) | (with_reducible refine Kd.C_drew ?_)))
          (case side4 => exact (Kd.R_reads' HO405.out).2.1)
          rintro e w' ⟨rfl, ⟨nd, rfl⟩⟩
          refine ⟨_, rfl, ?_⟩
          refine hK.out _ _ ⟨(blk_cell BK383.out 0).trans rfl, (blk_cell BK383.out 1).trans rfl, (blk_cell BK383.out 2).trans rfl, (blk_cell BK383.out 3).trans rfl, (blk_cell BK383.out 4).trans rfl⟩ (fun hHeld => ?_)
          clear hK K
          refine norm_ (a' := ?_) ?_ ?_
          rotate_left
          ·show Act.put _ (some 77) _ = _
           simp only [Act.put, List.setIfInBounds_toArray, List.set_cons_zero, List.set_cons_succ, i64_w, i32_w]
           rfl
          refine pu 4 (some 78) (fl 47 31) HT_ ?_
          refine pu 5 (some 79) (fl 47 63) HT_ ?_
          refine pu 6 (some 80) (fl 47 127) HT_ ?_
          refine pu 7 (some 81) (fl 47 255) HT_ ?_
          refine pu 8 (some 82) (fl 47 511) HT_ ?_
          refine pu 9 (some 83) (fl 47 1023) HT_ ?_
          refine pu 10 (some 84) (fl 47 2047) HT_ ?_
          refine pu 14 (some 88) (fl 47 18431) HT_ ?_
          refine tu 12 (some 86) (fl 47 22527) HT_ HW_ hHeld ?_
          refine tu 15 (some 89) (fl 47 55295) HT_ HW_ hHeld ?_
          refine one_ (i := 11) (N := some 85) (fl 47 57343) rfl rfl (one_of HT_.out (by kernel_rfl)) (by decide) (fun K hK => ?_)
          refine goes_ Try.func10 (by kernel_rfl) rfl #[.slice A0 l0.length c0] (by rfl) rfl rfl mp_ ?_
          with_reducible refine (comptrollerlaw09_Theirs.calls kj5 _ _ l0 t417 _ ?side1 ?side2 A46.out).mono ?_
          (case side1 => repeat (first | exact (Kd.C_below HR0.out bx) | (with_reducible refine Kd.C_alloc ?_ _) | (with_reducible refine Kd.C_drewN ?_ _) | (with_reducible refine Kd.C_drew ?_)))
          (case side2 => exact HC0.out)
          rintro e w74 ⟨v418, rfl, ho0, hb⟩
          refine ⟨_, rfl, ?_⟩
          have n0_ := Aside0.mk (Kd.R_elder' (kr HO394) (Kd.R_base ho0) hb)
          have n1_ := Aside0.mk (Kd.R_elder' (kr HO397) (Kd.R_base ho0) hb)
          have n2_ := Aside0.mk (Kd.R_elder' (kr HO400) (Kd.R_base ho0) hb)
          have n3_ := Aside0.mk (Kd.R_below (kr HO405) hb)
          have n4_ := Aside0.mk (Kd.R_elder' (kr HO408) (Kd.R_base ho0) hb)
          have n5_ := Aside0.mk (Kd.R_below (kr HO415) hb)
          have n6_ := Aside0.mk (Kd.R_lower (Kd.R_new' (Kd.R_new' (Kd.R_new' (Kd.R_new' ho0 (Kd.R_lt (kr HO394))) (Kd.R_lt (kr HO397))) (Kd.R_lt (kr HO400))) (Kd.R_lt (kr HO408))) (below_size bx))
          have n7_ := Aside0.mk (blk_below (g := gb383) (o := .cells #[.string a2_0, .string a2_1, .string a2_2, .string a2_3, .int .i64 a2_4] 24 (0, 0)) (by (with_reducible repeat (first | refine blk_drewN ?_ _ | refine blk_drew ?_ | refine blk_alloc ?_ _)); exact BK383.out) hb)
          have n8_ := Aside0.mk (below_step bx hb)
          clear HO394 HO397 HO400 HO405 HO408 HO415 BK383 HB; have HO394 := n0_; have HO397 := n1_; have HO400 := n2_; have HO405 := n3_; have HO408 := n4_; have HO415 := n5_; have HO419 := n6_; have BK383 := n7_; have HB := n8_; clear n0_ n1_ n2_ n3_ n4_ n5_ n6_ n7_ n8_
          (try clear hb)
          (try clear hb2)
          (try clear hk)
          (try clear hi)
          (try clear ho0)
          obtain ⟨Ao75, co75, eo75⟩ := Kd.R_slice HO419.out
          (first | subst eo75 | (injection eo75 with f1_ f2_ f3_; have f4_ := f1_.symm; have f5_ := f3_.symm; clear f1_ f2_ f3_; subst f4_; subst f5_))
          refine hK.out _ _ ⟨(blk_cell BK383.out 0).trans rfl, (blk_cell BK383.out 1).trans rfl, (blk_cell BK383.out 2).trans rfl, (blk_cell BK383.out 3).trans rfl, (blk_cell BK383.out 4).trans rfl⟩ (fun hHeld => ?_)
          clear hK K
          refine norm_ (a' := ?_) ?_ ?_
          rotate_left
          ·show Act.put _ (some 85) _ = _
           simp only [Act.put, List.setIfInBounds_toArray, List.set_cons_zero, List.set_cons_succ, i64_w, i32_w]
           rfl
          refine one_ (i := 13) (N := some 87) (fl 47 65535) rfl rfl (one_of HT_.out (by kernel_rfl)) (by decide) (fun K hK => ?_)
          refine goes_ Try.func16 (by kernel_rfl) rfl #[.slice Ao75 t417.length co75, .agg #[.string a2_0, .string a2_1, .string a2_2, .string a2_3, .int .i64 a2_4]] (by rfl) rfl rfl mp_ ?_
          with_reducible refine (fact_Get.calls kj5 _ _ t417 a2_0 a2_1 a2_2 a2_3 a2_4 t420 _ ?side1 ?side2 A47.out).mono ?_
          (case side1 => repeat (first | exact (Kd.R_reads' HO419.out).2.2 | (with_reducible refine Kd.C_alloc ?_ _) | (with_reducible refine Kd.C_drewN ?_ _) | (with_reducible refine Kd.C_drew ?_)))
          (case side2 => exact (Kd.R_reads' HO419.out).2.1)
          rintro e w76 ⟨rfl, hb⟩
          refine ⟨_, rfl, ?_⟩
          have n0_ := Aside0.mk (Kd.R_below (kr HO394) hb)
          have n1_ := Aside0.mk (Kd.R_below (kr HO397) hb)
          have n2_ := Aside0.mk (Kd.R_below (kr HO400) hb)
          have n3_ := Aside0.mk (Kd.R_below (kr HO405) hb)
          have n4_ := Aside0.mk (Kd.R_below (kr HO408) hb)
          have n5_ := Aside0.mk (Kd.R_below (kr HO415) hb)
          have n6_ := Aside0.mk (Kd.R_below (kr HO419) hb)
          have n7_ := Aside0.mk (blk_below (g := gb383) (o := .cells #[.string a2_0, .string a2_1, .string a2_2, .string a2_3, .int .i64 a2_4] 24 (0, 0)) (by (with_reducible repeat (first | refine blk_drewN ?_ _ | refine blk_drew ?_ | refine blk_alloc ?_ _)); exact BK383.out) hb)
          have n8_ := Aside0.mk (below_step bx hb)
          clear HO394 HO397 HO400 HO405 HO408 HO415 HO419 BK383 HB; have HO394 := n0_; have HO397 := n1_; have HO400 := n2_; have HO405 := n3_; have HO408 := n4_; have HO415 := n5_; have HO419 := n6_; have BK383 := n7_; have HB := n8_; clear n0_ n1_ n2_ n3_ n4_ n5_ n6_ n7_ n8_
          (try clear hb)
          (try clear hb2)
          (try clear hk)
          (try clear hi)
          refine hK.out _ _ ⟨(blk_cell BK383.out 0).trans rfl, (blk_cell BK383.out 1).trans rfl, (blk_cell BK383.out 2).trans rfl, (blk_cell BK383.out 3).trans rfl, (blk_cell BK383.out 4).trans rfl⟩ (fun hHeld => ?_)
          clear hK K
          refine norm_ (a' := ?_) ?_ ?_
          rotate_left
          ·show Act.put _ (some 87) _ = _
           simp only [Act.put, List.setIfInBounds_toArray, List.set_cons_zero, List.set_cons_succ, i64_w, i32_w]
           rfl
          refine one_ (i := 16) (N := some 90) (fl 47 131071) rfl rfl (one_of HT_.out (by kernel_rfl)) (by decide) (fun K hK => ?_)
          refine goes_ Try.func17 (by kernel_rfl) rfl #[.slice A0 l0.length c0, .agg #[.string a2_0, .string a2_1, .string a2_2, .string a2_3, .int .i64 a2_4]] (by rfl) rfl rfl mp_ ?_
          with_reducible refine (comptrollerref09_Get.calls kj5 _ _ l0 a2_0 a2_1 a2_2 a2_3 a2_4 t421 _ ?side1 ?side2 A48.out).mono ?_
          (case side1 => repeat (first | exact (Kd.C_below HR0.out HB.out) | (with_reducible refine Kd.C_alloc ?_ _) | (with_reducible refine Kd.C_drewN ?_ _) | (with_reducible refine Kd.C_drew ?_)))
          (case side2 => exact HC0.out)
          rintro e w77 ⟨rfl, hb⟩
          refine ⟨_, rfl, ?_⟩
          have n0_ := Aside0.mk (Kd.R_below (kr HO394) hb)
          have n1_ := Aside0.mk (Kd.R_below (kr HO397) hb)
          have n2_ := Aside0.mk (Kd.R_below (kr HO400) hb)
          have n3_ := Aside0.mk (Kd.R_below (kr HO405) hb)
          have n4_ := Aside0.mk (Kd.R_below (kr HO408) hb)
          have n5_ := Aside0.mk (Kd.R_below (kr HO415) hb)
          have n6_ := Aside0.mk (Kd.R_below (kr HO419) hb)
          have n7_ := Aside0.mk (blk_below (g := gb383) (o := .cells #[.string a2_0, .string a2_1, .string a2_2, .string a2_3, .int .i64 a2_4] 24 (0, 0)) (by (with_reducible repeat (first | refine blk_drewN ?_ _ | refine blk_drew ?_ | refine blk_alloc ?_ _)); exact BK383.out) hb)
          have n8_ := Aside0.mk (below_step bx hb)
          clear HO394 HO397 HO400 HO405 HO408 HO415 HO419 BK383 HB; have HO394 := n0_; have HO397 := n1_; have HO400 := n2_; have HO405 := n3_; have HO408 := n4_; have HO415 := n5_; have HO419 := n6_; have BK383 := n7_; have HB := n8_; clear n0_ n1_ n2_ n3_ n4_ n5_ n6_ n7_ n8_
          (try clear hb)
          (try clear hb2)
          (try clear hk)
          (try clear hi)
          refine hK.out _ _ ⟨(blk_cell BK383.out 0).trans rfl, (blk_cell BK383.out 1).trans rfl, (blk_cell BK383.out 2).trans rfl, (blk_cell BK383.out 3).trans rfl, (blk_cell BK383.out 4).trans rfl⟩ (fun hHeld => ?_)
          clear hK K
          refine norm_ (a' := ?_) ?_ ?_
          rotate_left
          ·show Act.put _ (some 90) _ = _
           simp only [Act.put, List.setIfInBounds_toArray, List.set_cons_zero, List.set_cons_succ, i64_w, i32_w]
           rfl
          refine pu 17 (some 91) (fl 47 262143) HT_ ?_
          refine pu 18 (some 92) (fl 47 524287) HT_ ?_
          refine pu 19 (some 93) (fl 47 1048575) HT_ ?_
          refine pu 20 (some 94) (fl 47 2097151) HT_ ?_
          refine pu 21 (some 95) (fl 47 4194303) HT_ ?_
          refine pu 22 (some 96) (fl 47 8388607) HT_ ?_
          refine pu 23 (some 97) (fl 47 16777215) HT_ ?_
          refine pu 24 (some 98) (fl 47 33554431) HT_ ?_
          refine pu 25 (some 99) (fl 47 67108863) HT_ ?_
          refine pu 26 (some 100) (fl 47 134217727) HT_ ?_
          refine pu 27 (some 101) (fl 47 268435455) HT_ ?_
          refine pu 28 (some 102) (fl 47 536870911) HT_ ?_
          refine pu 29 (some 103) (fl 47 1073741823) HT_ ?_
          refine pu 30 (some 104) (fl 47 2147483647) HT_ ?_
          refine pu 32 (some 106) (fl 47 6442450943) HT_ ?_
          refine pu 34 (some 108) (fl 47 23622320127) HT_ ?_
          refine pu 38 (some 112) (fl 47 298500227071) HT_ ?_
          refine pu 39 (some 113) (fl 47 848256040959) HT_ ?_
          refine pu 41 (some 115) (fl 47 3047279296511) HT_ ?_
          refine tu 33 (some 107) (fl 47 3055869231103) HT_ HW_ hHeld ?_
          refine tu 35 (some 109) (fl 47 3090228969471) HT_ HW_ hHeld ?_
          refine tu 40 (some 114) (fl 47 4189740597247) HT_ HW_ hHeld ?_
          refine tu 42 (some 116) (fl 47 8587787108351) HT_ HW_ hHeld ?_
          refine one_ (i := 31) (N := some 105) (fl 47 8589934591999) rfl rfl (one_of HT_.out (by kernel_rfl)) (by decide) (fun K hK => ?_)
          refine goes_ Try.func10 (by kernel_rfl) rfl #[.slice A0 l0.length c0] (by rfl) rfl rfl mp_ ?_
          with_reducible refine (comptrollerlaw09_Theirs.calls kj5 _ _ l0 t422 _ ?side1 ?side2 A52.out).mono ?_
          (case side1 => repeat (first | exact (Kd.C_below HR0.out HB.out) | (with_reducible refine Kd.C_alloc ?_ _) | (with_reducible refine Kd.C_drewN ?_ _) | (with_reducible refine Kd.C_drew ?_)))
          (case side2 => exact HC0.out)
          rintro e w78 ⟨v423, rfl, ho0, hb⟩
          refine ⟨_, rfl, ?_⟩
          have n0_ := Aside0.mk (Kd.R_elder' (kr HO394) (Kd.R_base ho0) hb)
          have n1_ := Aside0.mk (Kd.R_elder' (kr HO397) (Kd.R_base ho0) hb)
          have n2_ := Aside0.mk (Kd.R_elder' (kr HO400) (Kd.R_base ho0) hb)
          have n3_ := Aside0.mk (Kd.R_below (kr HO405) hb)
          have n4_ := Aside0.mk (Kd.R_elder' (kr HO408) (Kd.R_base ho0) hb)
          have n5_ := Aside0.mk (Kd.R_below (kr HO415) hb)
          have n6_ := Aside0.mk (Kd.R_elder' (kr HO419) (Kd.R_base ho0) hb)
          have n7_ := Aside0.mk (Kd.R_lower (Kd.R_new' (Kd.R_new' (Kd.R_new' (Kd.R_new' (Kd.R_new' ho0 (Kd.R_lt (kr HO394))) (Kd.R_lt (kr HO397))) (Kd.R_lt (kr HO400))) (Kd.R_lt (kr HO408))) (Kd.R_lt (kr HO419))) (below_size bx))
          have n8_ := Aside0.mk (blk_below (g := gb383) (o := .cells #[.string a2_0, .string a2_1, .string a2_2, .string a2_3, .int .i64 a2_4] 24 (0, 0)) (by (with_reducible repeat (first | refine blk_drewN ?_ _ | refine blk_drew ?_ | refine blk_alloc ?_ _)); exact BK383.out) hb)
          have n9_ := Aside0.mk (below_step bx hb)
          clear HO394 HO397 HO400 HO405 HO408 HO415 HO419 BK383 HB; have HO394 := n0_; have HO397 := n1_; have HO400 := n2_; have HO405 := n3_; have HO408 := n4_; have HO415 := n5_; have HO419 := n6_; have HO424 := n7_; have BK383 := n8_; have HB := n9_; clear n0_ n1_ n2_ n3_ n4_ n5_ n6_ n7_ n8_ n9_
          (try clear hb)
          (try clear hb2)
          (try clear hk)
          (try clear hi)
          (try clear ho0)
          obtain ⟨Ao79, co79, eo79⟩ := Kd.R_slice HO424.out
          (first | subst eo79 | (injection eo79 with f1_ f2_ f3_; have f4_ := f1_.symm; have f5_ := f3_.symm; clear f1_ f2_ f3_; subst f4_; subst f5_))
          refine hK.out _ _ ⟨(blk_cell BK383.out 0).trans rfl, (blk_cell BK383.out 1).trans rfl, (blk_cell BK383.out 2).trans rfl, (blk_cell BK383.out 3).trans rfl, (blk_cell BK383.out 4).trans rfl⟩ (fun hHeld => ?_)
          clear hK K
          refine norm_ (a' := ?_) ?_ ?_
          rotate_left
          ·show Act.put _ (some 105) _ = _
           simp only [Act.put, List.setIfInBounds_toArray, List.set_cons_zero, List.set_cons_succ, i64_w, i32_w]
           rfl
          refine one_ (i := 36) (N := some 110) (fl 47 8658654068735) rfl rfl (one_of HT_.out (by kernel_rfl)) (by decide) (fun K hK => ?_)
          refine goes_ Try.func18 (by kernel_rfl) rfl #[.slice Ao79 t422.length co79, .string a2_0, .int .i64 a2_4] (by rfl) rfl rfl mp_ ?_
          with_reducible refine (fact_Pick.calls kj5 _ _ t422 a2_0 a2_4 t425 _ ?side1 ?side2 A53.out).mono ?_
          (case side1 => repeat (first | exact (Kd.R_reads' HO424.out).2.2 | (with_reducible refine Kd.C_alloc ?_ _) | (with_reducible refine Kd.C_drewN ?_ _) | (with_reducible refine Kd.C_drew ?_)))
          (case side2 => exact (Kd.R_reads' HO424.out).2.1)
          rintro e w80 ⟨v426, rfl, ho0, hb⟩
          refine ⟨_, rfl, ?_⟩
          have n0_ := Aside0.mk (Kd.R_elder' (kr HO394) (Kd.R_base ho0) hb)
          have n1_ := Aside0.mk (Kd.R_elder' (kr HO397) (Kd.R_base ho0) hb)
          have n2_ := Aside0.mk (Kd.R_elder' (kr HO400) (Kd.R_base ho0) hb)
          have n3_ := Aside0.mk (Kd.R_below (kr HO405) hb)
          have n4_ := Aside0.mk (Kd.R_elder' (kr HO408) (Kd.R_base ho0) hb)
          have n5_ := Aside0.mk (Kd.R_below (kr HO415) hb)
          have n6_ := Aside0.mk (Kd.R_elder' (kr HO419) (Kd.R_base ho0) hb)
          have n7_ := Aside0.mk (Kd.R_elder' (kr HO424) (Kd.R_base ho0) hb)
          have n8_ := Aside0.mk (Kd.R_lower (Kd.R_new' (Kd.R_new' (Kd.R_new' (Kd.R_new' (Kd.R_new' (Kd.R_new' ho0 (Kd.R_lt (kr HO394))) (Kd.R_lt (kr HO397))) (Kd.R_lt (kr HO400))) (Kd.R_lt (kr HO408))) (Kd.R_lt (kr HO419))) (Kd.R_lt (kr HO424))) (below_size bx))
          have n9_ := Aside0.mk (blk_below (g := gb383) (o := .cells #[.string a2_0, .string a2_1, .string a2_2, .string a2_3, .int .i64 a2_4] 24 (0, 0)) (by (with_reducible repeat (first | refine blk_drewN ?_ _ | refine blk_drew ?_ | refine blk_alloc ?_ _)); exact BK383.out) hb)
          have n10_ := Aside0.mk (below_step bx hb)
          clear HO394 HO397 HO400 HO405 HO408 HO415 HO419 HO424 BK383 HB; have HO394 := n0_; have HO397 := n1_; have HO400 := n2_; have HO405 := n3_; have HO408 := n4_; have HO415 := n5_; have HO419 := n6_; have HO424 := n7_; have HO427 := n8_; have BK383 := n9_; have HB := n10_; clear n0_ n1_ n2_ n3_ n4_ n5_ n6_ n7_ n8_ n9_ n10_
          (try clear hb)
          (try clear hb2)
          (try clear hk)
          (try clear hi)
          (try clear ho0)
          obtain ⟨Ao81, co81, eo81⟩ := Kd.R_slice HO427.out
          (first | subst eo81 | (injection eo81 with f1_ f2_ f3_; have f4_ := f1_.symm; have f5_ := f3_.symm; clear f1_ f2_ f3_; subst f4_; subst f5_))
          refine hK.out _ _ ⟨(blk_cell BK383.out 0).trans rfl, (blk_cell BK383.out 1).trans rfl, (blk_cell BK383.out 2).trans rfl, (blk_cell BK383.out 3).trans rfl, (blk_cell BK383.out 4).trans rfl⟩ (fun hHeld => ?_)
          clear hK K
          refine norm_ (a' := ?_) ?_ ?_
          rotate_left
          ·show Act.put _ (some 110) _ = _
           simp only [Act.put, List.setIfInBounds_toArray, List.set_cons_zero, List.set_cons_succ, i64_w, i32_w]
           rfl
          refine one_ (i := 37) (N := some 111) (fl 47 8796093022207) rfl rfl (one_of HT_.out (by kernel_rfl)) (by decide) (fun K hK => ?_)
          refine goes_ Try.func15 (by kernel_rfl) rfl #[.slice Ao81 t425.length co81] (by rfl) rfl rfl mp_ ?_
          with_reducible refine (comptrollerlaw09_Ours.calls kj5 _ _ t425 t428 _ ?side1 ?side2 A54.out).mono ?_
          (case side1 => repeat (first | exact (Kd.R_reads' HO427.out).2.2 | (with_reducible refine Kd.C_alloc ?_ _) | (with_reducible refine Kd.C_drewN ?_ _) | (with_reducible refine Kd.C_drew ?_)))
          (case side2 => exact (Kd.R_reads' HO427.out).2.1)
          rintro e w82 ⟨v429, rfl, ho0, hb⟩
          refine ⟨_, rfl, ?_⟩
          have n0_ := Aside0.mk (Kd.R_below (kr HO394) hb)
          have n1_ := Aside0.mk (Kd.R_below (kr HO397) hb)
          have n2_ := Aside0.mk (Kd.R_below (kr HO400) hb)
          have n3_ := Aside0.mk (Kd.R_elder' (kr HO405) (Kd.R_base ho0) hb)
          have n4_ := Aside0.mk (Kd.R_below (kr HO408) hb)
          have n5_ := Aside0.mk (Kd.R_elder' (kr HO415) (Kd.R_base ho0) hb)
          have n6_ := Aside0.mk (Kd.R_below (kr HO419) hb)
          have n7_ := Aside0.mk (Kd.R_below (kr HO424) hb)
          have n8_ := Aside0.mk (Kd.R_below (kr HO427) hb)
          have n9_ := Aside0.mk (Kd.R_lower (Kd.R_new' (Kd.R_new' ho0 (Kd.R_lt (kr HO405))) (Kd.R_lt (kr HO415))) (below_size bx))
          have n10_ := Aside0.mk (blk_below (g := gb383) (o := .cells #[.string a2_0, .string a2_1, .string a2_2, .string a2_3, .int .i64 a2_4] 24 (0, 0)) (by (with_reducible repeat (first | refine blk_drewN ?_ _ | refine blk_drew ?_ | refine blk_alloc ?_ _)); exact BK383.out) hb)
          have n11_ := Aside0.mk (below_step bx hb)
          clear HO394 HO397 HO400 HO405 HO408 HO415 HO419 HO424 HO427 BK383 HB; have HO394 := n0_; have HO397 := n1_; have HO400 := n2_; have HO405 := n3_; have HO408 := n4_; have HO415 := n5_; have HO419 := n6_; have HO424 := n7_; have HO427 := n8_; have HO430 := n9_; have BK383 := n10_; have HB := n11_; clear n0_ n1_ n2_ n3_ n4_ n5_ n6_ n7_ n8_ n9_ n10_ n11_
          (try clear hb)
          (try clear hb2)
          (try clear hk)
          (try clear hi)
          (try clear ho0)
          refine hK.out _ _ ⟨(blk_cell BK383.out 0).trans rfl, (blk_cell BK383.out 1).trans rfl, (blk_cell BK383.out 2).trans rfl, (blk_cell BK383.out 3).trans rfl, (blk_cell BK383.out 4).trans rfl⟩ (fun hHeld => ?_)
          clear hK K
          refine norm_ (a' := ?_) ?_ ?_
          rotate_left
          ·show Act.put _ (some 111) _ = _
           simp only [Act.put, List.setIfInBounds_toArray, List.set_cons_zero, List.set_cons_succ, i64_w, i32_w]
           rfl
          refine one_ (i := 43) (N := some 117) (fl 47 17592186044415) rfl rfl (one_of HT_.out (by kernel_rfl)) (by decide) (fun K hK => ?_)
          refine goes_ Try.func19 (by kernel_rfl) rfl #[.slice A0 l0.length c0, .string a2_0, .int .i64 a2_4] (by rfl) rfl rfl mp_ ?_
          with_reducible refine (comptrollerref09_Pick.calls kj5 _ _ l0 a2_0 a2_4 t431 _ ?side1 ?side2 A55.out).mono ?_
          (case side1 => repeat (first | exact (Kd.C_below HR0.out HB.out) | (with_reducible refine Kd.C_alloc ?_ _) | (with_reducible refine Kd.C_drewN ?_ _) | (with_reducible refine Kd.C_drew ?_)))
          (case side2 => exact HC0.out)
          rintro e w83 ⟨v432, rfl, ho0, hb⟩
          refine ⟨_, rfl, ?_⟩
          have n0_ := Aside0.mk (Kd.R_below (kr HO394) hb)
          have n1_ := Aside0.mk (Kd.R_below (kr HO397) hb)
          have n2_ := Aside0.mk (Kd.R_below (kr HO400) hb)
          have n3_ := Aside0.mk (Kd.R_elder' (kr HO405) (Kd.R_base ho0) hb)
          have n4_ := Aside0.mk (Kd.R_below (kr HO408) hb)
          have n5_ := Aside0.mk (Kd.R_elder' (kr HO415) (Kd.R_base ho0) hb)
          have n6_ := Aside0.mk (Kd.R_below (kr HO419) hb)
          have n7_ := Aside0.mk (Kd.R_below (kr HO424) hb)
          have n8_ := Aside0.mk (Kd.R_below (kr HO427) hb)
          have n9_ := Aside0.mk (Kd.R_elder' (kr HO430) (Kd.R_base ho0) hb)
          have n10_ := Aside0.mk (Kd.R_lower (Kd.R_new' (Kd.R_new' (Kd.R_new' ho0 (Kd.R_lt (kr HO405))) (Kd.R_lt (kr HO415))) (Kd.R_lt (kr HO430))) (below_size bx))
          have n11_ := Aside0.mk (blk_below (g := gb383) (o := .cells #[.string a2_0, .string a2_1, .string a2_2, .string a2_3, .int .i64 a2_4] 24 (0, 0)) (by (with_reducible repeat (first | refine blk_drewN ?_ _ | refine blk_drew ?_ | refine blk_alloc ?_ _)); exact BK383.out) hb)
          have n12_ := Aside0.mk (below_step bx hb)
          clear HO394 HO397 HO400 HO405 HO408 HO415 HO419 HO424 HO427 HO430 BK383 HB; have HO394 := n0_; have HO397 := n1_; have HO400 := n2_; have HO405 := n3_; have HO408 := n4_; have HO415 := n5_; have HO419 := n6_; have HO424 := n7_; have HO427 := n8_; have HO430 := n9_; have HO433 := n10_; have BK383 := n11_; have HB := n12_; clear n0_ n1_ n2_ n3_ n4_ n5_ n6_ n7_ n8_ n9_ n10_ n11_ n12_
          (try clear hb)
          (try clear hb2)
          (try clear hk)
          (try clear hi)
          (try clear ho0)
          obtain ⟨Ao84, co84, eo84⟩ := Kd.R_slice HO430.out
          (first | subst eo84 | (injection eo84 with f1_ f2_ f3_; have f4_ := f1_.symm; have f5_ := f3_.symm; clear f1_ f2_ f3_; subst f4_; subst f5_))
          obtain ⟨Ao85, co85, eo85⟩ := Kd.R_slice HO433.out
          (first | subst eo85 | (injection eo85 with f1_ f2_ f3_; have f4_ := f1_.symm; have f5_ := f3_.symm; clear f1_ f2_ f3_; subst f4_; subst f5_))
          refine hK.out _ _ ⟨(blk_cell BK383.out 0).trans rfl, (blk_cell BK383.out 1).trans rfl, (blk_cell BK383.out 2).trans rfl, (blk_cell BK383.out 3).trans rfl, (blk_cell BK383.out 4).trans rfl⟩ (fun hHeld => ?_)
          clear hK K
          refine norm_ (a' := ?_) ?_ ?_
          rotate_left
          ·show Act.put _ (some 117) _ = _
           simp only [Act.put, List.setIfInBounds_toArray, List.set_cons_zero, List.set_cons_succ, i64_w, i32_w]
           rfl
          refine one_ (i := 44) (N := some 118) (fl 47 35184372088831) rfl rfl (one_of HT_.out (by kernel_rfl)) (by decide) (fun K hK => ?_)
          refine goes_ Try.func14 (by kernel_rfl) rfl #[.slice Ao84 t428.length co84, .slice Ao85 t431.length co85] (by rfl) rfl rfl mp_ ?_
          with_reducible refine (comptrollerref09_Same.calls kj5 _ _ t428 _ _ t431 t434 _ ?side1 ?side2 ?side3 ?side4 A56.out).mono ?_
          (case side1 => repeat (first | exact (Kd.R_reads' HO430.out).2.2 | (with_reducible refine Kd.C_alloc ?_ _) | (with_reducible refine Kd.C_drewN ?_ _) | (with_reducible refine Kd.C_drew ?_)))
          (case side2 => exact (Kd.R_reads' HO430.out).2.1)
          (case side3 => repeat (first | exact (Kd.R_reads' HO433.out).2.2 | (with_reducible refine Kd.C_alloc ?_ _) | (with_reducible refine Kd.C_drewN ?_ _) | (with_reducible refine Kd.C_drew ?_)))
          (case side4 => exact (Kd.R_reads' HO433.out).2.1)
          rintro e w' ⟨rfl, ⟨nd, rfl⟩⟩
          refine ⟨_, rfl, ?_⟩
          refine hK.out _ _ ⟨(blk_cell BK383.out 0).trans rfl, (blk_cell BK383.out 1).trans rfl, (blk_cell BK383.out 2).trans rfl, (blk_cell BK383.out 3).trans rfl, (blk_cell BK383.out 4).trans rfl⟩ (fun hHeld => ?_)
          clear hK K
          refine norm_ (a' := ?_) ?_ ?_
          rotate_left
          ·show Act.put _ (some 118) _ = _
           simp only [Act.put, List.setIfInBounds_toArray, List.set_cons_zero, List.set_cons_succ, i64_w, i32_w]
           rfl
          refine pu 45 (some 119) (fl 47 70368744177663) HT_ ?_
          refine pu 46 (some 6) (fl 47 140737488355327) HT_ ?_
          refine done_ (done_of HT_.out (by kernel_rfl)) ?_
          try go_wp2
          go_ret
          exact ⟨re_, bx⟩
         ·rw [if_neg c51] at H
          exact absurd H (by simp)
        ·rw [if_neg c50] at H
         exact absurd H (by simp)
       ·rw [if_neg c49] at H
        exact absurd H (by simp)
      ·rw [if_neg c45] at H
       exact absurd H (by simp)
     ·replace c44 := Bool.eq_false_iff.mpr c44
      subst c44
      have H1 : (none) = some r := by rw [if_neg (show ¬ (false = true) by decide)] at H; exact H
      clear H; have H := H1; clear H1
      exact absurd H (by simp)
 ·replace c5 := Bool.eq_false_iff.mpr c5
  subst c5
  have H1 : (some false) = some r := by rw [if_neg (show ¬ (false = true) by decide)] at H; exact H
  clear H; have H := H1; clear H1
  obtain rfl := Option.some.inj H
  go_enter Try.func3, Try.ntmps3
  go_wp2_with (first | ((with_reducible refine gate_dst (N := 5) rfl ?_); (try (refine gate_guard (by rfl) ?_; dsimp only)); refine box_event ?hg (N := 5) ?hd (cs := #[.string a2_0, .string a2_1, .string a2_2, .string a2_3, .int .i64 a2_4]) (t := 24) ?hr ?_; (case hd => rfl); (case hg => rfl); (case hr => first | (go_simp; done) | (go_simp; rfl)); intro gb383 hg w86 hbox hb; have n0_ := Aside0.mk (below_step bw hb); have n1_ := Aside0.mk (hbox); have n2_ := Aside0.mk ((by rw [hg]; exact (below_size bw) : w.heap.size ≤ gb383)); have n3_ := Aside0.mk ((by rw [hg]; exact (below_size bw) : w.heap.size ≤ gb383)); clear HB; have HB := n0_; have BK383 := n1_; have GW383 := n2_; have GE383 := n3_; clear n0_ n1_ n2_ n3_; clear hb hbox hg) | ((with_reducible refine gate_callee (f := 6) rfl ?_); refine goesL_ (some 15) rfl rfl Try.func6 (by kernel_rfl) rfl #[] rfl mp_ ?_; (with_reducible refine (comptrollerlaw09_alive.calls k  false _ A4.out).mono ?_); rintro e w87 ⟨rfl, hb⟩; refine ⟨_, rfl, ?_⟩; have n0_ := Aside0.mk (blk_below (g := gb383) (o := .cells #[.string a2_0, .string a2_1, .string a2_2, .string a2_3, .int .i64 a2_4] 24 (0, 0)) (by (with_reducible repeat (first | refine blk_drewN ?_ _ | refine blk_drew ?_ | refine blk_alloc ?_ _)); exact BK383.out) hb); have n1_ := Aside0.mk (below_step bx hb); clear BK383; clear HB; have BK383 := n0_; have HB := n1_; clear n0_ n1_; (try clear hb); (try clear hb2); (try clear hk); (try clear hi)))
  go_ret
  exact ⟨re_, bx⟩

end Go.Proofs.Ytdckeflggcefbaa.Y
