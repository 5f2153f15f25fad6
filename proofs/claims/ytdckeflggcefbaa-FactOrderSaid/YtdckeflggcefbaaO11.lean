/- Plain Lean functions with the answers of the program's functions, and proofs that the machine's calls come to them; lines written by a program for this claim. No conditions. -/
import Derived.Test.YtdckeflggcefbaaO1
import Derived.Test.YtdckeflggcefbaaO10
import Derived.Test.YtdckeflggcefbaaO8
import Derived.Test.YtdckeflggcefbaaO9
namespace Go.Proofs.Ytdckeflggcefbaa.Y
open Go.RowKit Go.Proofs.YtdckeflggcefbaaW.PrintWords Go.Proofs.YtdckeflggcefbaaW.PrintLast Go.Proofs.YtdckeflggcefbaaW.PrintMore
attribute [local go_sem] max2_int min2_int max_two min_two max_three min_three max_four min_four   -- for this text's walks alone
set_option linter.unusedVariables false
set_option linter.unusedSimpArgs false

/-! ### comptrollerlaw09_FactOrder: function 4 -/
mutual
def comptrollerlaw09_FactOrder.j0 : Nat → List (S28) → Int → Bool → Bool → Option (Bool)
 | 0, _, _, _, _ => none
 | k + 1, x0, x1, x2, x34 => if x34 = true then (some true) else (if (x0.length : Int) = 0 then (none) else (if 0 ≤ (Int.tmod (wrap64 (x1)) (x0.length : Int)) then (if (Int.tmod (wrap64 (x1)) (x0.length : Int)) ≤ (x0.length : Int) then ((some (x0.drop ((Int.tmod (wrap64 (x1)) (x0.length : Int)) : Int).toNat : List (S28))).bind fun y440 => (if ([] : List (S28)).length + y440.length < 1759218604441 then ((some (([] : List (S28)) ++ y440 : List (S28))).bind fun y444 => ((some (x0.take ((Int.tmod (wrap64 (x1)) (x0.length : Int)) : Int).toNat : List (S28))).bind fun y447 => (if y444.length + y447.length < 1759218604441 then ((some (y444 ++ y447 : List (S28))).bind fun y451 => (if x2 = true then (comptrollerlaw09_FactOrder.l0 k x0 (Int.tmod (wrap64 (x1)) (x0.length : Int)) y451 (wrap64 ((y451.length : Int) / 2)) 0) else (comptrollerlaw09_FactOrder.j2 k x0 (Int.tmod (wrap64 (x1)) (x0.length : Int)) y451))) else (none)))) else (none))) else (none)) else (none)))
def comptrollerlaw09_FactOrder.j2 : Nat → List (S28) → Int → List (S28) → Option (Bool)
 | 0, _, _, _ => none
 | k + 1, x0, x7, x8 => (comptrollerlaw09_Theirs.f k x0).bind fun t458 => ((fact_Of.f k t458).bind fun bt461 => ((comptrollerlaw09_Theirs.f k x8).bind fun t465 => ((fact_Of.f k t465).bind fun bt468 => (if 0 ≤ x7 then (if x7 ≤ (x0.length : Int) then ((comptrollerlaw09_Theirs.f k (x0.take (x7 : Int).toNat)).bind fun t476 => ((fact_Of.f k t476).bind fun bt479 => ((comptrollerlaw09_Theirs.f k (x0.drop (x7 : Int).toNat)).bind fun t487 => ((fact_Of.f k t487).bind fun bt490 => ((fact_Add.f k bt479.1 bt490.1).bind fun bt494 => (if bt461.2 = 0 then (if bt468.2 = 0 then (if bt479.2 = 0 then (if bt490.2 = 0 then (if bt494.2 = 0 then ((comptrollerlaw09_Ours.f k bt461.1).bind fun t498 => ((comptrollerlaw09_Ours.f k bt468.1).bind fun t501 => ((comptrollerref09_Same.f k t498 t501).bind fun t504 => (if t504 = true then ((comptrollerlaw09_Ours.f k bt461.1).bind fun t505 => ((comptrollerlaw09_Ours.f k bt494.1).bind fun t508 => ((comptrollerref09_Same.f k t505 t508).bind fun t511 => (if t511 = true then ((fact_Right.f k bt461.1).bind fun t512 => (some t512)) else (none))))) else (none))))) else (none)) else (none)) else (none)) else (none)) else (none))))))) else (none)) else (none)))))
def comptrollerlaw09_FactOrder.l0 : Nat → List (S28) → Int → List (S28) → Int → Int → Option (Bool)
 | 0, _, _, _, _, _ => none
 | k + 1, x0, x7, x8, x51, x52 => if x52 < x51 then (if 0 ≤ (wrap64 ((wrap64 ((x8.length : Int) - 1)) - x52)) then (if (wrap64 ((wrap64 ((x8.length : Int) - 1)) - x52)) < (x8.length : Int) then (if 0 ≤ x52 then (if x52 < (x8.length : Int) then (comptrollerlaw09_FactOrder.l0 k x0 x7 ((x8.set (x52 : Int).toNat (⟨(⟨(rd_T28 x8 (wrap64 ((wrap64 ((x8.length : Int) - 1)) - x52))).f0.f0, (rd_T28 x8 (wrap64 ((wrap64 ((x8.length : Int) - 1)) - x52))).f0.f1, (rd_T28 x8 (wrap64 ((wrap64 ((x8.length : Int) - 1)) - x52))).f0.f2, (rd_T28 x8 (wrap64 ((wrap64 ((x8.length : Int) - 1)) - x52))).f0.f3, (rd_T28 x8 (wrap64 ((wrap64 ((x8.length : Int) - 1)) - x52))).f0.f4⟩ : S24), (rd_T28 x8 (wrap64 ((wrap64 ((x8.length : Int) - 1)) - x52))).f1⟩ : S28)).set ((wrap64 ((wrap64 ((x8.length : Int) - 1)) - x52)) : Int).toNat (⟨(⟨(rd_T28 x8 x52).f0.f0, (rd_T28 x8 x52).f0.f1, (rd_T28 x8 x52).f0.f2, (rd_T28 x8 x52).f0.f3, (rd_T28 x8 x52).f0.f4⟩ : S24), (rd_T28 x8 x52).f1⟩ : S28)) x51 (wrap64 (x52 + 1))) else (none)) else (none)) else (none)) else (none)) else (comptrollerlaw09_FactOrder.j2 k x0 x7 x8)
end
def comptrollerlaw09_FactOrder.f (k : Nat) (l0 : List (S28)) (a1 : Int) (a2 : Bool) : Option (Bool) := (comptrollerlaw09_alive.f k).bind fun t437 => (if t437 = true then ((comptrollerlaw09_Few.f k l0).bind fun t438 => (if t438 = true then ((comptrollerlaw09_small.f k l0).bind fun t439 => (if t439 = true then (comptrollerlaw09_FactOrder.j0 k l0 a1 a2 ((l0.length : Int) == 0)) else (comptrollerlaw09_FactOrder.j0 k l0 a1 a2 true))) else (comptrollerlaw09_FactOrder.j0 k l0 a1 a2 true))) else (some false))
theorem comptrollerlaw09_FactOrder.mono_l : ∀ k, (∀ y0 y1 y2 y3, LeO (comptrollerlaw09_FactOrder.j0 k y0 y1 y2 y3) (comptrollerlaw09_FactOrder.j0 (k + 1) y0 y1 y2 y3)) ∧ (∀ y0 y1 y2, LeO (comptrollerlaw09_FactOrder.j2 k y0 y1 y2) (comptrollerlaw09_FactOrder.j2 (k + 1) y0 y1 y2)) ∧ (∀ y0 y1 y2 y3 y4, LeO (comptrollerlaw09_FactOrder.l0 k y0 y1 y2 y3 y4) (comptrollerlaw09_FactOrder.l0 (k + 1) y0 y1 y2 y3 y4))
 | 0 => ⟨fun _ _ _ _ r h => by simp [comptrollerlaw09_FactOrder.j0] at h, fun _ _ _ r h => by simp [comptrollerlaw09_FactOrder.j2] at h, fun _ _ _ _ _ r h => by simp [comptrollerlaw09_FactOrder.l0] at h⟩
 | k + 1 => by
  obtain ⟨ih0, ih1, ih2⟩ := comptrollerlaw09_FactOrder.mono_l k
  refine ⟨?_, ?_, ?_⟩
  ·intro y0 y1 y2 y3
   unfold comptrollerlaw09_FactOrder.j0
   repeat' first
   | (with_reducible exact ih0 _ _ _ _)
   | (with_reducible exact ih1 _ _ _)
   | (with_reducible exact ih2 _ _ _ _ _)
   | (with_reducible exact comptrollerlaw09_Few.mono _ _)
   | (with_reducible exact comptrollerlaw09_Ours.mono _ _)
   | (with_reducible exact comptrollerlaw09_Theirs.mono _ _)
   | (with_reducible exact comptrollerlaw09_alive.mono _)
   | (with_reducible exact comptrollerlaw09_small.mono _ _)
   | (with_reducible exact comptrollerref09_Same.mono _ _ _)
   | (with_reducible exact fact_Add.mono _ _ _)
   | (with_reducible exact fact_Of.mono _ _)
   | (with_reducible exact fact_Right.mono _ _)
   | (with_reducible exact LeO.refl _)
   | (with_reducible exact LeO.none _)
   | (with_reducible refine LeO.ite ?_ ?_)
   | (with_reducible refine LeO.bind ?_ (fun _ => ?_))
   | exact ih0 _ _ _ _
   | exact ih1 _ _ _
   | exact ih2 _ _ _ _ _
   | exact comptrollerlaw09_Few.mono _ _
   | exact comptrollerlaw09_Ours.mono _ _
   | exact comptrollerlaw09_Theirs.mono _ _
   | exact comptrollerlaw09_alive.mono _
   | exact comptrollerlaw09_small.mono _ _
   | exact comptrollerref09_Same.mono _ _ _
   | exact fact_Add.mono _ _ _
   | exact fact_Of.mono _ _
   | exact fact_Right.mono _ _
   | exact LeO.none _
   | refine LeO.ite ?_ ?_
   | refine LeO.bind ?_ (fun _ => ?_)
  ·intro y0 y1 y2
   unfold comptrollerlaw09_FactOrder.j2
   repeat' first
   | (with_reducible exact ih0 _ _ _ _)
   | (with_reducible exact ih1 _ _ _)
   | (with_reducible exact ih2 _ _ _ _ _)
   | (with_reducible exact comptrollerlaw09_Few.mono _ _)
   | (with_reducible exact comptrollerlaw09_Ours.mono _ _)
   | (with_reducible exact comptrollerlaw09_Theirs.mono _ _)
   | (with_reducible exact comptrollerlaw09_alive.mono _)
   | (with_reducible exact comptrollerlaw09_small.mono _ _)
   | (with_reducible exact comptrollerref09_Same.mono _ _ _)
   | (with_reducible exact fact_Add.mono _ _ _)
   | (with_reducible exact fact_Of.mono _ _)
   | (with_reducible exact fact_Right.mono _ _)
   | (with_reducible exact LeO.refl _)
   | (with_reducible exact LeO.none _)
   | (with_reducible refine LeO.ite ?_ ?_)
   | (with_reducible refine LeO.bind ?_ (fun _ => ?_))
   | exact ih0 _ _ _ _
   | exact ih1 _ _ _
   | exact ih2 _ _ _ _ _
   | exact comptrollerlaw09_Few.mono _ _
   | exact comptrollerlaw09_Ours.mono _ _
   | exact comptrollerlaw09_Theirs.mono _ _
   | exact comptrollerlaw09_alive.mono _
   | exact comptrollerlaw09_small.mono _ _
   | exact comptrollerref09_Same.mono _ _ _
   | exact fact_Add.mono _ _ _
   | exact fact_Of.mono _ _
   | exact fact_Right.mono _ _
   | exact LeO.none _
   | refine LeO.ite ?_ ?_
   | refine LeO.bind ?_ (fun _ => ?_)
  ·intro y0 y1 y2 y3 y4
   unfold comptrollerlaw09_FactOrder.l0
   repeat' first
   | (with_reducible exact ih0 _ _ _ _)
   | (with_reducible exact ih1 _ _ _)
   | (with_reducible exact ih2 _ _ _ _ _)
   | (with_reducible exact comptrollerlaw09_Few.mono _ _)
   | (with_reducible exact comptrollerlaw09_Ours.mono _ _)
   | (with_reducible exact comptrollerlaw09_Theirs.mono _ _)
   | (with_reducible exact comptrollerlaw09_alive.mono _)
   | (with_reducible exact comptrollerlaw09_small.mono _ _)
   | (with_reducible exact comptrollerref09_Same.mono _ _ _)
   | (with_reducible exact fact_Add.mono _ _ _)
   | (with_reducible exact fact_Of.mono _ _)
   | (with_reducible exact fact_Right.mono _ _)
   | (with_reducible exact LeO.refl _)
   | (with_reducible exact LeO.none _)
   | (with_reducible refine LeO.ite ?_ ?_)
   | (with_reducible refine LeO.bind ?_ (fun _ => ?_))
   | exact ih0 _ _ _ _
   | exact ih1 _ _ _
   | exact ih2 _ _ _ _ _
   | exact comptrollerlaw09_Few.mono _ _
   | exact comptrollerlaw09_Ours.mono _ _
   | exact comptrollerlaw09_Theirs.mono _ _
   | exact comptrollerlaw09_alive.mono _
   | exact comptrollerlaw09_small.mono _ _
   | exact comptrollerref09_Same.mono _ _ _
   | exact fact_Add.mono _ _ _
   | exact fact_Of.mono _ _
   | exact fact_Right.mono _ _
   | exact LeO.none _
   | refine LeO.ite ?_ ?_
   | refine LeO.bind ?_ (fun _ => ?_)
theorem comptrollerlaw09_FactOrder.mono : ∀ a0 a1 a2 k, LeO (comptrollerlaw09_FactOrder.f k a0 a1 a2) (comptrollerlaw09_FactOrder.f (k + 1) a0 a1 a2) := by
 intro a0 a1 a2 k
 obtain ⟨ih0, ih1, ih2⟩ := comptrollerlaw09_FactOrder.mono_l k
 unfold comptrollerlaw09_FactOrder.f
 repeat' first
   | (with_reducible exact ih0 _ _ _ _)
   | (with_reducible exact ih1 _ _ _)
   | (with_reducible exact ih2 _ _ _ _ _)
   | (with_reducible exact comptrollerlaw09_Few.mono _ _)
   | (with_reducible exact comptrollerlaw09_Ours.mono _ _)
   | (with_reducible exact comptrollerlaw09_Theirs.mono _ _)
   | (with_reducible exact comptrollerlaw09_alive.mono _)
   | (with_reducible exact comptrollerlaw09_small.mono _ _)
   | (with_reducible exact comptrollerref09_Same.mono _ _ _)
   | (with_reducible exact fact_Add.mono _ _ _)
   | (with_reducible exact fact_Of.mono _ _)
   | (with_reducible exact fact_Right.mono _ _)
   | (with_reducible exact LeO.refl _)
   | (with_reducible exact LeO.none _)
   | (with_reducible refine LeO.ite ?_ ?_)
   | (with_reducible refine LeO.bind ?_ (fun _ => ?_))
   | exact ih0 _ _ _ _
   | exact ih1 _ _ _
   | exact ih2 _ _ _ _ _
   | exact comptrollerlaw09_Few.mono _ _
   | exact comptrollerlaw09_Ours.mono _ _
   | exact comptrollerlaw09_Theirs.mono _ _
   | exact comptrollerlaw09_alive.mono _
   | exact comptrollerlaw09_small.mono _ _
   | exact comptrollerref09_Same.mono _ _ _
   | exact fact_Add.mono _ _ _
   | exact fact_Of.mono _ _
   | exact fact_Right.mono _ _
   | exact LeO.none _
   | refine LeO.ite ?_ ?_
   | refine LeO.bind ?_ (fun _ => ?_)
def comptrollerlaw09_FactOrder.T6 : Bool × List (List Nat × List Nat) := (true, [([], []), ([], []), ([0, 1], [0, 1]), ([2], [2]), ([], []), ([], []), ([4, 5], [4, 5]), ([3, 6, 3], [3, 6]), ([7, 7, 0, 1, 2, 3, 4, 5, 6, 7], [7])])
def comptrollerlaw09_FactOrder.B6 : List Nat := [0, 0, 3, 7, 0, 0, 48, 127, 255]
theorem comptrollerlaw09_FactOrder.tab6 : rtab .any (opsOf Try.f4 6) = comptrollerlaw09_FactOrder.T6 := by kernel_rfl
theorem comptrollerlaw09_FactOrder.bits6 : waitsOk comptrollerlaw09_FactOrder.T6.2 comptrollerlaw09_FactOrder.B6 = true := by kernel_rfl
def comptrollerlaw09_FactOrder.T11 : Bool × List (List Nat × List Nat) := (true, [([], []), ([], []), ([], []), ([], []), ([3], [3]), ([4], [4]), ([], []), ([5, 6], [5, 6]), ([], []), ([], []), ([9], [9]), ([10], [10]), ([], []), ([11, 12], [11, 12]), ([8, 13], [8, 13]), ([14], [14]), ([], []), ([], []), ([16, 17], [16, 17]), ([18], [18]), ([0, 1, 0, 1, 8, 9, 10, 11, 12, 13, 14, 15, 19], [0, 1]), ([20, 15, 0, 1, 8, 9, 10, 11, 12, 13, 14, 15, 19], [15, 20]), ([2, 7, 0, 1, 2, 3, 4, 5, 6, 7, 8, 9, 10, 11, 12, 13, 14, 15, 16, 17, 18, 19, 20, 21], [2, 7]), ([22, 19, 21, 0, 1, 2, 3, 4, 5, 6, 7, 8, 9, 10, 11, 12, 13, 14, 15, 16, 17, 18, 19, 20, 21], [19, 22])])
def comptrollerlaw09_FactOrder.B11 : List Nat := [0, 0, 0, 0, 8, 24, 0, 120, 0, 0, 512, 1536, 0, 7680, 16128, 32512, 0, 0, 196608, 458752, 1048323, 2096899, 4194303, 8388607]
theorem comptrollerlaw09_FactOrder.tab11 : rtab .any (opsOf Try.f4 11) = comptrollerlaw09_FactOrder.T11 := by kernel_rfl
theorem comptrollerlaw09_FactOrder.bits11 : waitsOk comptrollerlaw09_FactOrder.T11.2 comptrollerlaw09_FactOrder.B11 = true := by kernel_rfl
set_option maxHeartbeats 8000000 in
set_option maxRecDepth 100000 in
theorem comptrollerlaw09_FactOrder.calls (k : Nat) (A0 : Option Addr) (c0 : Nat) (l0 : List (S28)) (a1 : Int) (a2 : Bool) (r : Bool) (w : World) (hr0 : Kd.C k28 w A0 l0.length l0) (hc0 : l0.length ≤ c0) (h : comptrollerlaw09_FactOrder.f k l0 a1 a2 = some r) :
  Calls Try.prog 4 #[.slice A0 l0.length c0, .int .u8 a1, .bool a2] w fun e w' => e = .returned (.bool r) ∧ Below w.heap.size w w' := by
 have hu28 := Try.underlying28
 have HR0 := Aside0.mk hr0
 have HC0 := Aside0.mk hc0
 clear hr0 hc0
 have HB := Aside0.mk (Below.refl w.heap.size w)
 have H : ((comptrollerlaw09_alive.f k).bind fun t437 => (if t437 = true then ((comptrollerlaw09_Few.f k l0).bind fun t438 => (if t438 = true then ((comptrollerlaw09_small.f k l0).bind fun t439 => (if t439 = true then (comptrollerlaw09_FactOrder.j0 k l0 a1 a2 ((l0.length : Int) == 0)) else (comptrollerlaw09_FactOrder.j0 k l0 a1 a2 true))) else (comptrollerlaw09_FactOrder.j0 k l0 a1 a2 true))) else (some false))) = some r := h
 clear h
 replace H := Option.bind_eq_some_iff.mp H
 obtain ⟨t437, A40, H⟩ := H
 replace H : (if t437 = true then ((comptrollerlaw09_Few.f k l0).bind fun t438 => (if t438 = true then ((comptrollerlaw09_small.f k l0).bind fun t439 => (if t439 = true then (comptrollerlaw09_FactOrder.j0 k l0 a1 a2 ((l0.length : Int) == 0)) else (comptrollerlaw09_FactOrder.j0 k l0 a1 a2 true))) else (comptrollerlaw09_FactOrder.j0 k l0 a1 a2 true))) else (some false)) = some r := H
 have A4 := Aside0.mk A40
 clear A40
 by_cases c5 : t437 = true
 ·subst c5
  have H1 : ((comptrollerlaw09_Few.f k l0).bind fun t438 => (if t438 = true then ((comptrollerlaw09_small.f k l0).bind fun t439 => (if t439 = true then (comptrollerlaw09_FactOrder.j0 k l0 a1 a2 ((l0.length : Int) == 0)) else (comptrollerlaw09_FactOrder.j0 k l0 a1 a2 true))) else (comptrollerlaw09_FactOrder.j0 k l0 a1 a2 true))) = some r := by rw [if_pos rfl] at H; exact H
  clear H
  have H := H1
  clear H1
  have HC6 := Aside0.mk H
  clear H
  go_enter Try.func4, Try.ntmps4
  go_upto_region 3 with (first | ((with_reducible refine gate_callee (f := 6) rfl ?_); refine goesL_ (some 20) rfl rfl Try.func6 (by kernel_rfl) rfl #[] rfl mp_ ?_; (with_reducible refine (comptrollerlaw09_alive.calls k  true _ A4.out).mono ?_); rintro e w7 ⟨rfl, hb⟩; refine ⟨_, rfl, ?_⟩; have n0_ := Aside0.mk (below_step bw hb); clear HB; have HB := n0_; clear n0_; (try clear hb); (try clear hb2); (try clear hk); (try clear hi)))
  (try simp only [Act.put, List.setIfInBounds_toArray, List.set_cons_zero, List.set_cons_succ])
  go_cut [34] (fun v34 wc => ∃ (kq : Nat) (x34_5 : Bool), v34 = .bool x34_5 ∧ Aside0 (comptrollerlaw09_FactOrder.j0 kq l0 a1 a2 x34_5 = some r) ∧ Aside0 (kq ≤ k) ∧ Aside0 (Below w.heap.size w wc))
  case first =>
   have H := HC6.out
   clear HC6
   replace H := Option.bind_eq_some_iff.mp H
   obtain ⟨t438, A80, H⟩ := H
   replace H : (if t438 = true then ((comptrollerlaw09_small.f k l0).bind fun t439 => (if t439 = true then (comptrollerlaw09_FactOrder.j0 k l0 a1 a2 ((l0.length : Int) == 0)) else (comptrollerlaw09_FactOrder.j0 k l0 a1 a2 true))) else (comptrollerlaw09_FactOrder.j0 k l0 a1 a2 true)) = some r := H
   have A8 := Aside0.mk A80
   clear A80
   by_cases c9 : t438 = true
   ·subst c9
    have H1 : ((comptrollerlaw09_small.f k l0).bind fun t439 => (if t439 = true then (comptrollerlaw09_FactOrder.j0 k l0 a1 a2 ((l0.length : Int) == 0)) else (comptrollerlaw09_FactOrder.j0 k l0 a1 a2 true))) = some r := by rw [if_pos rfl] at H; exact H
    clear H
    have H := H1
    clear H1
    replace H := Option.bind_eq_some_iff.mp H
    obtain ⟨t439, A100, H⟩ := H
    replace H : (if t439 = true then (comptrollerlaw09_FactOrder.j0 k l0 a1 a2 ((l0.length : Int) == 0)) else (comptrollerlaw09_FactOrder.j0 k l0 a1 a2 true)) = some r := H
    have A10 := Aside0.mk A100
    clear A100
    by_cases c11 : t439 = true
    ·subst c11
     have H1 : (comptrollerlaw09_FactOrder.j0 k l0 a1 a2 ((l0.length : Int) == 0)) = some r := by rw [if_pos rfl] at H; exact H
     clear H
     have H := H1
     clear H1
     have H' := Aside0.mk H
     clear H
     go_wp2_with (first | ((with_reducible refine gate_callee (f := 7) rfl ?_); refine goesL_ (some 23) rfl rfl Try.func7 (by kernel_rfl) rfl #[.slice A0 l0.length c0] rfl mp_ ?_; (with_reducible refine (comptrollerlaw09_Few.calls k _ _ l0 true _ ?side1 ?side2 A8.out).mono ?_); (case side1 => repeat (first | exact (Kd.C_below HR0.out HB.out) | (with_reducible refine Kd.C_alloc ?_ _) | (with_reducible refine Kd.C_drewN ?_ _) | (with_reducible refine Kd.C_drew ?_))); (case side2 => exact HC0.out); rintro e w12 ⟨rfl, hb⟩; refine ⟨_, rfl, ?_⟩; have n0_ := Aside0.mk (below_step bw hb); clear HB; have HB := n0_; clear n0_; (try clear hb); (try clear hb2); (try clear hk); (try clear hi)) | (go_at_call 20; (with_reducible refine (comptrollerlaw09_small.calls k _ _ l0 true _ ?side1 ?side2 A10.out).mono ?_); (case side1 => repeat (first | exact (Kd.C_below HR0.out HB.out) | (with_reducible refine Kd.C_alloc ?_ _) | (with_reducible refine Kd.C_drewN ?_ _) | (with_reducible refine Kd.C_drew ?_))); (case side2 => exact HC0.out); rintro e w13 ⟨rfl, hb⟩; have n0_ := Aside0.mk (below_step bw hb); clear HB; have HB := n0_; clear n0_; (try clear hb); (try clear hb2); (try clear hk); (try clear hi)))
     go_meet
     case rel => exact ⟨_, (((l0.length : Int) == 0)), rs_, H', ⟨by first | omega | exact Nat.le_refl _⟩, ⟨bw⟩⟩
    ·replace c11 := Bool.eq_false_iff.mpr c11
     subst c11
     have H1 : (comptrollerlaw09_FactOrder.j0 k l0 a1 a2 true) = some r := by rw [if_neg (show ¬ (false = true) by decide)] at H; exact H
     clear H
     have H := H1
     clear H1
     have H' := Aside0.mk H
     clear H
     go_wp2_with (first | ((with_reducible refine gate_callee (f := 7) rfl ?_); refine goesL_ (some 23) rfl rfl Try.func7 (by kernel_rfl) rfl #[.slice A0 l0.length c0] rfl mp_ ?_; (with_reducible refine (comptrollerlaw09_Few.calls k _ _ l0 true _ ?side1 ?side2 A8.out).mono ?_); (case side1 => repeat (first | exact (Kd.C_below HR0.out HB.out) | (with_reducible refine Kd.C_alloc ?_ _) | (with_reducible refine Kd.C_drewN ?_ _) | (with_reducible refine Kd.C_drew ?_))); (case side2 => exact HC0.out); rintro e w14 ⟨rfl, hb⟩; refine ⟨_, rfl, ?_⟩; have n0_ := Aside0.mk (below_step bw hb); clear HB; have HB := n0_; clear n0_; (try clear hb); (try clear hb2); (try clear hk); (try clear hi)) | (go_at_call 20; (with_reducible refine (comptrollerlaw09_small.calls k _ _ l0 false _ ?side1 ?side2 A10.out).mono ?_); (case side1 => repeat (first | exact (Kd.C_below HR0.out HB.out) | (with_reducible refine Kd.C_alloc ?_ _) | (with_reducible refine Kd.C_drewN ?_ _) | (with_reducible refine Kd.C_drew ?_))); (case side2 => exact HC0.out); rintro e w15 ⟨rfl, hb⟩; have n0_ := Aside0.mk (below_step bw hb); clear HB; have HB := n0_; clear n0_; (try clear hb); (try clear hb2); (try clear hk); (try clear hi)))
     go_meet
     case rel => exact ⟨_, (true), rs_, H', ⟨by first | omega | exact Nat.le_refl _⟩, ⟨bw⟩⟩
   ·replace c9 := Bool.eq_false_iff.mpr c9
    subst c9
    have H1 : (comptrollerlaw09_FactOrder.j0 k l0 a1 a2 true) = some r := by rw [if_neg (show ¬ (false = true) by decide)] at H; exact H
    clear H
    have H := H1
    clear H1
    have H' := Aside0.mk H
    clear H
    go_wp2_with (first | ((with_reducible refine gate_callee (f := 7) rfl ?_); refine goesL_ (some 23) rfl rfl Try.func7 (by kernel_rfl) rfl #[.slice A0 l0.length c0] rfl mp_ ?_; (with_reducible refine (comptrollerlaw09_Few.calls k _ _ l0 false _ ?side1 ?side2 A8.out).mono ?_); (case side1 => repeat (first | exact (Kd.C_below HR0.out HB.out) | (with_reducible refine Kd.C_alloc ?_ _) | (with_reducible refine Kd.C_drewN ?_ _) | (with_reducible refine Kd.C_drew ?_))); (case side2 => exact HC0.out); rintro e w16 ⟨rfl, hb⟩; refine ⟨_, rfl, ?_⟩; have n0_ := Aside0.mk (below_step bw hb); clear HB; have HB := n0_; clear n0_; (try clear hb); (try clear hb2); (try clear hk); (try clear hi)))
    go_meet
    case rel => exact ⟨_, (true), rs_, H', ⟨by first | omega | exact Nat.le_refl _⟩, ⟨bw⟩⟩
  case rest =>
   clear HC6
   try clear c1
   try clear p2
   try clear c4
   try clear c5
   try clear c6
   try clear c7
   try clear c9
   try clear c11
   obtain ⟨kq, x34_5, rfl, HA, HJ5, HB⟩ := hcut
   cases kq with
   | zero => exact absurd HA.out (by simp [comptrollerlaw09_FactOrder.j0])
   | succ kj5 =>
    have H := HA.out
    clear HA
    simp only [comptrollerlaw09_FactOrder.j0] at H
    by_cases c17 : x34_5 = true
    ·subst c17
     have H1 : (some true) = some r := by rw [if_pos rfl] at H; exact H
     clear H
     have H := H1
     clear H1
     obtain rfl := Option.some.inj H
     go_wp2
     go_ret
     exact ⟨re_, bw⟩
    ·replace c17 := Bool.eq_false_iff.mpr c17
     subst c17
     have H1 : (if (l0.length : Int) = 0 then (none) else (if 0 ≤ (Int.tmod (wrap64 (a1)) (l0.length : Int)) then (if (Int.tmod (wrap64 (a1)) (l0.length : Int)) ≤ (l0.length : Int) then ((some (l0.drop ((Int.tmod (wrap64 (a1)) (l0.length : Int)) : Int).toNat : List (S28))).bind fun y440 => (if ([] : List (S28)).length + y440.length < 1759218604441 then ((some (([] : List (S28)) ++ y440 : List (S28))).bind fun y444 => ((some (l0.take ((Int.tmod (wrap64 (a1)) (l0.length : Int)) : Int).toNat : List (S28))).bind fun y447 => (if y444.length + y447.length < 1759218604441 then ((some (y444 ++ y447 : List (S28))).bind fun y451 => (if a2 = true then (comptrollerlaw09_FactOrder.l0 kj5 l0 (Int.tmod (wrap64 (a1)) (l0.length : Int)) y451 (wrap64 ((y451.length : Int) / 2)) 0) else (comptrollerlaw09_FactOrder.j2 kj5 l0 (Int.tmod (wrap64 (a1)) (l0.length : Int)) y451))) else (none)))) else (none))) else (none)) else (none))) = some r := by rw [if_neg (show ¬ (false = true) by decide)] at H; exact H
     clear H
     have H := H1
     clear H1
     by_cases c18 : (l0.length : Int) = 0
     ·rw [if_pos c18] at H
      exact absurd H (by simp)
     ·rw [if_neg c18] at H
      have c18b0 : ((l0.length : Int) == 0) = false := beq_eq_false_iff_ne.mpr c18
      have c18b1 : ((l0.length : Int) != 0) = true := bne_iff_ne.mpr c18
      have c18b2 : ¬ (l0 = []) := fun h_ => c18 (by rw [h_]; rfl)
      obtain ⟨ji19, hji19⟩ : ∃ j_ : Int, (Int.tmod (wrap64 (a1)) (l0.length : Int)) = j_ := ⟨_, rfl⟩
      replace H : (if 0 ≤ (ji19) then (if (ji19) ≤ (l0.length : Int) then ((some (l0.drop ((ji19) : Int).toNat : List (S28))).bind fun y440 => (if ([] : List (S28)).length + y440.length < 1759218604441 then ((some (([] : List (S28)) ++ y440 : List (S28))).bind fun y444 => ((some (l0.take ((ji19) : Int).toNat : List (S28))).bind fun y447 => (if y444.length + y447.length < 1759218604441 then ((some (y444 ++ y447 : List (S28))).bind fun y451 => (if a2 = true then (comptrollerlaw09_FactOrder.l0 kj5 l0 ji19 y451 (wrap64 ((y451.length : Int) / 2)) 0) else (comptrollerlaw09_FactOrder.j2 kj5 l0 ji19 y451))) else (none)))) else (none))) else (none)) else (none)) = some r := by first | (rw [hji19] at H; exact H) | (simp only [hji19] at H ⊢; exact H)
      by_cases c20 : 0 ≤ (ji19)
      ·rw [if_pos c20] at H
       have c20b0 := eq_true c20
       have c20b1 : decide (0 ≤ (ji19)) = true := decide_eq_true c20
       clear c20
       by_cases c21 : (ji19) ≤ (l0.length : Int)
       ·rw [if_pos c21] at H
        have c21b0 := eq_true c21
        have c21b1 : decide ((ji19) ≤ (l0.length : Int)) = true := decide_eq_true c21
        clear c21
        obtain ⟨y440, hy440⟩ : ∃ y_ : List (S28), y_ = (l0.drop ((ji19) : Int).toNat) := ⟨_, rfl⟩
        replace H : (if ([] : List (S28)).length + y440.length < 1759218604441 then ((some (([] : List (S28)) ++ y440 : List (S28))).bind fun y444 => ((some (l0.take ((ji19) : Int).toNat : List (S28))).bind fun y447 => (if y444.length + y447.length < 1759218604441 then ((some (y444 ++ y447 : List (S28))).bind fun y451 => (if a2 = true then (comptrollerlaw09_FactOrder.l0 kj5 l0 ji19 y451 (wrap64 ((y451.length : Int) / 2)) 0) else (comptrollerlaw09_FactOrder.j2 kj5 l0 ji19 y451))) else (none)))) else (none)) = some r := by first | (rw [hy440]; with_reducible exact H) | (have H2_ := (Option.bind_some _ _).symm.trans H; rw [hy440]; with_reducible exact H2_) | (have H2_ := (Option.bind_some _ _).symm.trans H; with_reducible exact H2_) | with_reducible exact H | (rw [hy440]; exact H) | exact H
        have Ny440 := Aside0.mk hy440
        clear hy440
        by_cases c22 : ([] : List (S28)).length + y440.length < 1759218604441
        ·rw [if_pos c22] at H
         have LMc22 := Aside0.mk c22
         clear c22
         obtain ⟨y444, hy444⟩ : ∃ y_ : List (S28), y_ = (([] : List (S28)) ++ y440) := ⟨_, rfl⟩
         replace H : ((some (l0.take ((ji19) : Int).toNat : List (S28))).bind fun y447 => (if y444.length + y447.length < 1759218604441 then ((some (y444 ++ y447 : List (S28))).bind fun y451 => (if a2 = true then (comptrollerlaw09_FactOrder.l0 kj5 l0 ji19 y451 (wrap64 ((y451.length : Int) / 2)) 0) else (comptrollerlaw09_FactOrder.j2 kj5 l0 ji19 y451))) else (none))) = some r := by first | (rw [hy444]; with_reducible exact H) | (have H2_ := (Option.bind_some _ _).symm.trans H; rw [hy444]; with_reducible exact H2_) | (have H2_ := (Option.bind_some _ _).symm.trans H; with_reducible exact H2_) | with_reducible exact H | (rw [hy444]; exact H) | exact H
         have Ny444 := Aside0.mk hy444
         clear hy444
         have c23b0 := eq_true (of_decide_eq_true as_ : 0 ≤ (ji19))
         have c24b0 := eq_true (of_decide_eq_true as_ : (ji19) ≤ (l0.length : Int))
         obtain ⟨y447, hy447⟩ : ∃ y_ : List (S28), y_ = (l0.take ((ji19) : Int).toNat) := ⟨_, rfl⟩
         replace H : (if y444.length + y447.length < 1759218604441 then ((some (y444 ++ y447 : List (S28))).bind fun y451 => (if a2 = true then (comptrollerlaw09_FactOrder.l0 kj5 l0 ji19 y451 (wrap64 ((y451.length : Int) / 2)) 0) else (comptrollerlaw09_FactOrder.j2 kj5 l0 ji19 y451))) else (none)) = some r := by first | (rw [hy447]; with_reducible exact H) | (have H2_ := (Option.bind_some _ _).symm.trans H; rw [hy447]; with_reducible exact H2_) | (have H2_ := (Option.bind_some _ _).symm.trans H; with_reducible exact H2_) | with_reducible exact H | (rw [hy447]; exact H) | exact H
         have Ny447 := Aside0.mk hy447
         clear hy447
         by_cases c25 : y444.length + y447.length < 1759218604441
         ·rw [if_pos c25] at H
          have LMc25 := Aside0.mk c25
          clear c25
          obtain ⟨y451, hy451⟩ : ∃ y_ : List (S28), y_ = (y444 ++ y447) := ⟨_, rfl⟩
          replace H : (if a2 = true then (comptrollerlaw09_FactOrder.l0 kj5 l0 ji19 y451 (wrap64 ((y451.length : Int) / 2)) 0) else (comptrollerlaw09_FactOrder.j2 kj5 l0 ji19 y451)) = some r := by first | (rw [hy451]; with_reducible exact H) | (have H2_ := (Option.bind_some _ _).symm.trans H; rw [hy451]; with_reducible exact H2_) | (have H2_ := (Option.bind_some _ _).symm.trans H; with_reducible exact H2_) | with_reducible exact H | (rw [hy451]; exact H) | exact H
          have Ny451 := Aside0.mk hy451
          clear hy451
          have HC26 := Aside0.mk H
          clear H
          try go_wp2
          have n0_ := Aside0.mk (below_drew1 HB.out)
          clear HB
          have HB := n0_
          clear n0_
          have q28 : ((ji19) : Int) ≤ ((l0.length : Int) : Int) := of_decide_eq_true as_
          obtain ⟨i028, hi028, _, hsz28, _⟩ := info_parts info28
          have hroom28 : l0.length ≤ c0 := HC0.out
          have hC28 : Kd.C k28 _ A0 l0.length l0 := HR0.out
          have q028 : (0 : Int) ≤ ((ji19) : Int) := of_decide_eq_true as_
          have hcut28 := cut_from (P := Try.prog) 22 28 .i64 Try.underlying22 hi028 6 hsz28 A0 l0.length c0 (ji19) q028 q28
          have hr28 := Kd.C_drop (m := ((ji19) : Int).toNat) (c := c0) hC28 (by omega) hroom28
          obtain ⟨A28, hA28⟩ : ∃ A1, A1 = (if c0 = ((ji19) : Int).toNat then A0 else (A0 : Option Addr).map (·.add (((ji19) : Int).toNat * 6))) := ⟨_, rfl⟩
          obtain ⟨c28, hc28⟩ : ∃ c1, c1 = c0 - ((ji19) : Int).toNat := ⟨_, rfl⟩
          have hy28 : y440.length = l0.length - ((ji19) : Int).toNat := (by rw [Ny440.out, List.length_drop] <;> omega)
          rw [show (l0).drop ((ji19) : Int).toNat = y440 from Ny440.out.symm] at hr28
          replace hr28 : Kd.C k28 _ A28 y440.length y440 := (by rw [hA28]; exact hr28)
          rw [← hy28, ← hA28, ← hc28] at hcut28
          have HR443 := Aside0.mk hr28
          have HC443 := Aside0.mk (show y440.length ≤ c28 from by rw [hy28, hc28]; exact Nat.sub_le_sub_right hroom28 _)
          clear hr28 hC28 hroom28 hi028 hsz28 hc28
          have KY28 := Aside0.mk hy28
          have KA28 := Aside0.mk hA28
          clear hy28 hA28
          replace q28 := eq_true q28
          have q29 : ((ji19) : Int) ≤ ((l0.length : Int) : Int) := of_decide_eq_true as_
          obtain ⟨i029, hi029, _, hsz29, _⟩ := info_parts info28
          have hroom29 : l0.length ≤ c0 := HC0.out
          have hC29 : Kd.C k28 _ A0 l0.length l0 := HR0.out
          have hcut29 := cut_to (P := Try.prog) 22 28 .i64 Try.underlying22 hi029 A0 l0.length c0 (ji19) (of_decide_eq_true as_) q29 hroom29
          have hr29 := Kd.C_take (m := ((ji19) : Int).toNat) hC29 (by omega)
          have hy29 : y447.length = ((ji19) : Int).toNat := (by rw [Ny447.out, List.length_take]; omega)
          rw [← Ny447.out] at hr29
          rw [← hy29] at hcut29
          have HR450 := Aside0.mk hr29
          have HC450 := Aside0.mk (show y447.length ≤ c0 from by omega)
          clear hr29 hC29 hroom29 hi029 hsz29
          have KY29 := Aside0.mk hy29
          clear hy29
          replace q29 := eq_true q29
          refine start_ (n := 9) (S := fun w' => True) (ds := []) #[false, false, false, false, false, false, false, false, false] (by kernel_rfl) rfl rfl trivial (fun hHeld => ?_); refine with_tabW comptrollerlaw09_FactOrder.tab6 comptrollerlaw09_FactOrder.bits6 (fun HT_ HW_ => ?_)
          generalize wc.drew = w27 at HB HR443 HR450 hHeld ⊢
          refine pure_ (i := 0) (N := some 40) (v := ?_) (a' := ?_) #[true, false, false, false, false, false, false, false, false] rfl rfl (any_of HT_.out (by kernel_rfl)) (fun _ _ _ h => h) (Or.inl ⟨by rfl, ?_⟩) ?_ ?_
          rotate_left
          ·intro w'
           go_simp
           with_reducible rfl
          rotate_left
          ·simp only [Act.put, List.setIfInBounds_toArray, List.set_cons_zero, List.set_cons_succ, i64_w, i32_w]
           rfl
          refine pure_ (i := 1) (N := some 41) (v := ?_) (a' := ?_) #[true, true, false, false, false, false, false, false, false] rfl rfl (any_of HT_.out (by kernel_rfl)) (fun _ _ _ h => h) (Or.inl ⟨by rfl, ?_⟩) ?_ ?_
          rotate_left
          ·intro w'
           go_simp
           with_reducible rfl
          rotate_left
          ·simp only [Act.put, List.setIfInBounds_toArray, List.set_cons_zero, List.set_cons_succ, i64_w, i32_w]
           rfl
          refine pure_ (i := 2) (N := some 42) (v := ?_) (a' := ?_) #[true, true, true, false, false, false, false, false, false] rfl rfl (any_of HT_.out (by kernel_rfl)) (fun _ _ _ h => h) (Or.inl ⟨by rfl, ?_⟩) ?_ ?_
          rotate_left
          ·intro w'
           go_simp
           with_reducible rfl
          rotate_left
          ·simp only [Act.put, List.setIfInBounds_toArray, List.set_cons_zero, List.set_cons_succ, i64_w, i32_w]
           rfl
          refine pure_ (i := 4) (N := some 44) (v := ?_) (a' := ?_) #[true, true, true, false, true, false, false, false, false] rfl rfl (any_of HT_.out (by kernel_rfl)) (fun _ _ _ h => h) (Or.inl ⟨by rfl, ?_⟩) ?_ ?_
          rotate_left
          ·intro w'
           go_simp
           with_reducible rfl
          rotate_left
          ·simp only [Act.put, List.setIfInBounds_toArray, List.set_cons_zero, List.set_cons_succ, i64_w, i32_w]
           rfl
          refine pure_ (i := 5) (N := some 45) (v := ?_) (a' := ?_) #[true, true, true, false, true, true, false, false, false] rfl rfl (any_of HT_.out (by kernel_rfl)) (fun _ _ _ h => h) (Or.inl ⟨by rfl, ?_⟩) ?_ ?_
          rotate_left
          ·intro w'
           go_simp
           with_reducible rfl
          rotate_left
          ·simp only [Act.put, List.setIfInBounds_toArray, List.set_cons_zero, List.set_cons_succ, i64_w, i32_w]
           rfl
          refine pure_ (i := 6) (N := some 46) (v := ?_) (a' := ?_) #[true, true, true, false, true, true, true, false, false] rfl rfl (any_of HT_.out (by kernel_rfl)) (fun _ _ _ h => h) (Or.inl ⟨by rfl, ?_⟩) ?_ ?_
          rotate_left
          ·intro w'
           go_simp
           with_reducible rfl
          rotate_left
          ·simp only [Act.put, List.setIfInBounds_toArray, List.set_cons_zero, List.set_cons_succ, i64_w, i32_w]
           rfl
          refine one_ (i := 3) (N := some 43) #[true, true, true, true, true, true, true, false, false] rfl rfl (one_of HT_.out (by kernel_rfl)) (by decide) (fun K hK => ?_)
          refine Kd.R_append_rows_step k28 (w0 := w) w.heap.size rfl (.const (.slice none 0 0)) (.tmp 42) 22 28 (.agg #[(.string ⟨#[]⟩), (.string ⟨#[]⟩), (.string ⟨#[]⟩), (.string ⟨#[]⟩), (.int .i64 0), (.int .i64 0)]) 80 rfl Try.underlying22 info28 rfl (by decide) (by omega) (.slice none 0 0) ([] : List (S28)) y440 _ _ _ (fun _ => True) (fun _ => False) rfl rfl ?aO ?aR (fun _ _ h => h) (fun _ h => h.elim) ?aF ?aB ?aS ?aL ?_
          (case aR => repeat (first | exact (Kd.C_below HR443.out HB.out) | (with_reducible refine Kd.C_alloc ?_ _) | (with_reducible refine Kd.C_drewN ?_ _) | (with_reducible refine Kd.C_drew ?_)))
          (case aB => exact bw)
          (case aF => exact (fun _ _ => trivial))
          (case aO => exact ((Kd.R_nil _ _ _ _ (fun _ => True))))
          (case aS => exact (below_size bw))
          (case aL => have := LMc22.out; omega)
          intro v445 w30 ho hb hg hat
          rw [← Ny444.out] at ho
          have n0_ := Aside0.mk (hb)
          have n1_ := Aside0.mk (ho)
          clear HB
          have HB := n0_
          have HO446 := n1_
          clear n0_ n1_
          clear ho hb hg hat
          refine hK.out _ _ trivial (fun hHeld => ?_)
          clear hK K
          refine norm_ (a' := ?_) ?_ ?_
          rotate_left
          ·show Act.put _ (some 43) _ = _
           simp only [Act.put, List.setIfInBounds_toArray, List.set_cons_zero, List.set_cons_succ, i64_w, i32_w]
           rfl
          refine one_ (i := 7) (N := some 47) #[true, true, true, true, true, true, true, true, false] rfl rfl (one_of HT_.out (by kernel_rfl)) (by decide) (fun K hK => ?_)
          refine Kd.R_append_rows_step k28 (w0 := w) w.heap.size (by rfl) (.tmp 43) (.tmp 46) 22 28 (.agg #[(.string ⟨#[]⟩), (.string ⟨#[]⟩), (.string ⟨#[]⟩), (.string ⟨#[]⟩), (.int .i64 0), (.int .i64 0)]) 80 rfl Try.underlying22 info28 rfl (by decide) (by omega) v445 y444 y447 _ _ _ (fun _ => True) (fun _ => False) rfl rfl ?aO ?aR (fun _ _ h => h) (fun _ h => h.elim) ?aF ?aB ?aS ?aL ?_
          (case aR => repeat (first | exact (Kd.C_below HR450.out HB.out) | (with_reducible refine Kd.C_alloc ?_ _) | (with_reducible refine Kd.C_drewN ?_ _) | (with_reducible refine Kd.C_drew ?_)))
          (case aB => exact bw)
          (case aF => exact (fun _ _ => trivial))
          (case aO => exact (kr HO446))
          (case aS => exact (below_size bw))
          (case aL => have := LMc25.out; omega)
          intro v452 w31 ho hb hg hat
          rw [← Ny451.out] at ho
          have n0_ := Aside0.mk (hb)
          have n1_ := Aside0.mk (ho)
          clear HB
          clear HO446
          have HB := n0_
          have HO453 := n1_
          clear n0_ n1_
          clear ho hb hg hat
          refine hK.out _ _ trivial (fun hHeld => ?_)
          clear hK K
          refine norm_ (a' := ?_) ?_ ?_
          rotate_left
          ·show Act.put _ (some 47) _ = _
           simp only [Act.put, List.setIfInBounds_toArray, List.set_cons_zero, List.set_cons_succ, i64_w, i32_w]
           rfl
          refine pure_ (i := 8) (N := some 8) (v := ?_) (a' := ?_) #[true, true, true, true, true, true, true, true, true] rfl rfl (any_of HT_.out (by kernel_rfl)) (fun _ _ _ h => h) (Or.inl ⟨by rfl, ?_⟩) ?_ ?_
          rotate_left
          ·intro w'
           go_simp
           with_reducible rfl
          rotate_left
          ·simp only [Act.put, List.setIfInBounds_toArray, List.set_cons_zero, List.set_cons_succ, i64_w, i32_w]
           rfl
          refine done_ (done_of HT_.out (by kernel_rfl)) ?_
          go_upto_if 48 with (fail)
          go_cut [] (fun wc => ∃ (kq : Nat) (x8_25 : List (S28)), Aside0 (comptrollerlaw09_FactOrder.j2 kq l0 ji19 x8_25 = some r) ∧ Aside0 (kq ≤ kj5) ∧ Aside0 (Kd.R k28 28 wc w.heap.size (fun _ => True) v452 x8_25) ∧ Aside0 (Below w.heap.size w wc))
          case first =>
           have H := HC26.out
           clear HC26
           by_cases c32 : a2 = true
           ·subst c32
            have H1 : (comptrollerlaw09_FactOrder.l0 kj5 l0 ji19 y451 (wrap64 ((y451.length : Int) / 2)) 0) = some r := by rw [if_pos rfl] at H; exact H
            clear H
            have H := H1
            clear H1
            have H' := Aside0.mk H
            clear H
            obtain ⟨Ao33, co33, eo33⟩ := Kd.R_slice HO453.out
            subst eo33
            go_wp2
            go_loopg [52] kj5 (fun kq v52 w' => ∃ (x8_2 : List (S28)) (x52_2 : Int), v52 = .int .i64 x52_2 ∧ Aside0 (comptrollerlaw09_FactOrder.l0 kq l0 ji19 x8_2 (wrap64 ((y451.length : Int) / 2)) x52_2 = some r) ∧ Aside0 (kq ≤ kj5) ∧ Aside0 (Kd.R k28 28 w' w.heap.size (fun _ => True) (.slice Ao33 y451.length co33) x8_2) ∧ Aside0 (Below w.heap.size w w'))
            case atStart => exact ⟨(y451), (0), rs_, H', ⟨Nat.le_refl _⟩, ⟨by (with_reducible repeat (first | apply Kd.R_alloc | apply Kd.R_drewN | apply Kd.R_drew)); exact HO453.out⟩, ⟨bw⟩⟩
            case round =>
             clear H'
             try clear c1
             try clear c2
             try clear p2
             try clear q2
             try clear c3
             try clear c4
             try clear c5
             try clear c6
             try clear p6
             try clear c7
             try clear c9
             try clear c11
             try clear c17
             try clear c18
             try clear c18b0
             try clear c18b1
             try clear c18b2
             try clear c20
             try clear c20b0
             try clear c20b1
             try clear c21
             try clear c21b0
             try clear c21b1
             try clear c22
             try clear c23
             try clear c23b0
             try clear c24
             try clear c24b0
             try clear c25
             try clear c28
             try clear q28
             try clear q29
             try clear c32
             try clear p2
             try clear q028
             try clear q28
             try clear q29
             obtain ⟨x8_2, x52_2, rfl, HA, HK2, HO_8, HB⟩ := hrel
             have hl8_2 := (Kd.R_reads' HO_8.out).1
             rw [hl8_2] at HO_8
             (try simp only [hl8_2])
             cases gk with
             | zero => exact absurd HA.out (by simp [comptrollerlaw09_FactOrder.l0])
             | succ k2 =>
              have H := HA.out
              clear HA
              simp only [comptrollerlaw09_FactOrder.l0] at H
              by_cases c34 : x52_2 < (wrap64 ((y451.length : Int) / 2))
              ·rw [if_pos c34] at H
               have c34b0 : decide (x52_2 < (wrap64 ((y451.length : Int) / 2))) = true := decide_eq_true c34
               have c34b1 := c34b0
               (try rw [hl8_2] at c34b1)
               clear c34
               (first | rw [c34b0] | (simp only [i64_w, i32_w]; rw [c34b0]) | skip)
               obtain ⟨ji35, hji35⟩ : ∃ j_ : Int, (wrap64 ((wrap64 ((x8_2.length : Int) - 1)) - x52_2)) = j_ := ⟨_, rfl⟩
               replace H : (if 0 ≤ (ji35) then (if (ji35) < (x8_2.length : Int) then (if 0 ≤ x52_2 then (if x52_2 < (x8_2.length : Int) then (comptrollerlaw09_FactOrder.l0 k2 l0 ji19 ((x8_2.set (x52_2 : Int).toNat (⟨(⟨(rd_T28 x8_2 (ji35)).f0.f0, (rd_T28 x8_2 (ji35)).f0.f1, (rd_T28 x8_2 (ji35)).f0.f2, (rd_T28 x8_2 (ji35)).f0.f3, (rd_T28 x8_2 (ji35)).f0.f4⟩ : S24), (rd_T28 x8_2 (ji35)).f1⟩ : S28)).set ((ji35) : Int).toNat (⟨(⟨(rd_T28 x8_2 x52_2).f0.f0, (rd_T28 x8_2 x52_2).f0.f1, (rd_T28 x8_2 x52_2).f0.f2, (rd_T28 x8_2 x52_2).f0.f3, (rd_T28 x8_2 x52_2).f0.f4⟩ : S24), (rd_T28 x8_2 x52_2).f1⟩ : S28)) (wrap64 ((y451.length : Int) / 2)) (wrap64 (x52_2 + 1))) else (none)) else (none)) else (none)) else (none)) = some r := by first | (rw [hji35] at H; exact H) | (simp only [hji35] at H ⊢; exact H)
               have hji35w : (IntKind.i64.wrap ((wrap64 ((x8_2.length : Int) - 1)) - x52_2)) = ji35 := (i64_w _).trans hji35
               by_cases c36 : 0 ≤ (ji35)
               ·rw [if_pos c36] at H
                have c36b0 : decide (0 ≤ (ji35)) = true := decide_eq_true c36
                clear c36
                by_cases c37 : (ji35) < (x8_2.length : Int)
                ·rw [if_pos c37] at H
                 have c37b0 : decide ((ji35) < (x8_2.length : Int)) = true := decide_eq_true c37
                 clear c37
                 by_cases c38 : 0 ≤ x52_2
                 ·rw [if_pos c38] at H
                  have c38b0 : decide (0 ≤ x52_2) = true := decide_eq_true c38
                  clear c38
                  by_cases c39 : x52_2 < (x8_2.length : Int)
                  ·rw [if_pos c39] at H
                   have c39b0 : decide (x52_2 < (x8_2.length : Int)) = true := decide_eq_true c39
                   clear c39
                   obtain ⟨y456, hy456⟩ : ∃ y_ : List (S28), y_ = (x8_2.set (x52_2 : Int).toNat (⟨(⟨(rd_T28 x8_2 (ji35)).f0.f0, (rd_T28 x8_2 (ji35)).f0.f1, (rd_T28 x8_2 (ji35)).f0.f2, (rd_T28 x8_2 (ji35)).f0.f3, (rd_T28 x8_2 (ji35)).f0.f4⟩ : S24), (rd_T28 x8_2 (ji35)).f1⟩ : S28)) := ⟨_, rfl⟩
                   replace H : (comptrollerlaw09_FactOrder.l0 k2 l0 ji19 (y456.set ((ji35) : Int).toNat (⟨(⟨(rd_T28 x8_2 x52_2).f0.f0, (rd_T28 x8_2 x52_2).f0.f1, (rd_T28 x8_2 x52_2).f0.f2, (rd_T28 x8_2 x52_2).f0.f3, (rd_T28 x8_2 x52_2).f0.f4⟩ : S24), (rd_T28 x8_2 x52_2).f1⟩ : S28)) (wrap64 ((y451.length : Int) / 2)) (wrap64 (x52_2 + 1))) = some r := by first | (rw [hy456]; with_reducible exact H) | (have H2_ := (Option.bind_some _ _).symm.trans H; rw [hy456]; with_reducible exact H2_) | (have H2_ := (Option.bind_some _ _).symm.trans H; with_reducible exact H2_) | with_reducible exact H | (rw [hy456]; exact H) | exact H
                   have Ny456 := Aside0.mk hy456
                   clear hy456
                   obtain ⟨y457, hy457⟩ : ∃ y_ : List (S28), y_ = (y456.set ((ji35) : Int).toNat (⟨(⟨(rd_T28 x8_2 x52_2).f0.f0, (rd_T28 x8_2 x52_2).f0.f1, (rd_T28 x8_2 x52_2).f0.f2, (rd_T28 x8_2 x52_2).f0.f3, (rd_T28 x8_2 x52_2).f0.f4⟩ : S24), (rd_T28 x8_2 x52_2).f1⟩ : S28)) := ⟨_, rfl⟩
                   replace H : (comptrollerlaw09_FactOrder.l0 k2 l0 ji19 y457 (wrap64 ((y451.length : Int) / 2)) (wrap64 (x52_2 + 1))) = some r := by first | (rw [hy457]; with_reducible exact H) | (have H2_ := (Option.bind_some _ _).symm.trans H; rw [hy457]; with_reducible exact H2_) | (have H2_ := (Option.bind_some _ _).symm.trans H; with_reducible exact H2_) | with_reducible exact H | (rw [hy457]; exact H) | exact H
                   have Ny457 := Aside0.mk hy457
                   clear hy457
                   have H' := Aside0.mk H
                   clear H
                   try go_wp2
                   have n0_ := Aside0.mk (Kd.R_drew HO_8.out)
                   have n1_ := Aside0.mk (below_drew1 HB.out)
                   clear HO_8
                   clear HB
                   have HO_8 := n0_
                   have HB := n1_
                   clear n0_ n1_
                   have p454 : 0 ≤ ((ji35) : Int) := of_decide_eq_true as_
                   have q454 : (ji35) < (x8_2.length : Int) := of_decide_eq_true as_
                   obtain ⟨ad454, e454, hx454_0, hx454_1, hx454_2, hx454_3, hx454_4, hx454_5⟩ := at_T28 (Kd.R_reads' HO_8.out).2.2 (ji35) p454 q454
                   cases e454
                   replace p454 := eq_true p454
                   replace q454 := eq_true q454
                   have p455 : 0 ≤ (x52_2 : Int) := of_decide_eq_true as_
                   have q455 : x52_2 < (x8_2.length : Int) := of_decide_eq_true as_
                   obtain ⟨ad455, e455, hx455_0, hx455_1, hx455_2, hx455_3, hx455_4, hx455_5⟩ := at_T28 (Kd.R_reads' HO_8.out).2.2 x52_2 p455 q455
                   obtain rfl : ad454 = ad455 := (by injection e455)
                   replace p455 := eq_true p455
                   replace q455 := eq_true q455
                   have p40 : 0 ≤ (x52_2 : Int) := of_decide_eq_true as_
                   have q40 : (x52_2 : Int) < ((x8_2.length : Int) : Int) := of_decide_eq_true as_
                   obtain ⟨go40, co40, eo40, gb40, gl40, cl40, HG40⟩ := Kd.R_form HO_8.out (by omega)
                   (first | cases eo40 | (injection eo40 with ea_ en_ ec_; (first | subst ea_ | (injection ea_ with ea_; subst ea_)); subst ec_; clear en_))
                   have GB40 := Aside0.mk gb40
                   have GG40 := Aside0.mk HG40
                   clear gb40 gl40 HG40
                   (first | simp only [add_plain] at hx454_0 | skip)
                   (first | simp only [add_plain] at hx454_1 | skip)
                   (first | simp only [add_plain] at hx454_2 | skip)
                   (first | simp only [add_plain] at hx454_3 | skip)
                   (first | simp only [add_plain] at hx454_4 | skip)
                   (first | simp only [add_plain] at hx454_5 | skip)
                   (first | simp only [add_plain] at hx455_0 | skip)
                   (first | simp only [add_plain] at hx455_1 | skip)
                   (first | simp only [add_plain] at hx455_2 | skip)
                   (first | simp only [add_plain] at hx455_3 | skip)
                   (first | simp only [add_plain] at hx455_4 | skip)
                   (first | simp only [add_plain] at hx455_5 | skip)
                   obtain ⟨ce40, hcl40, hM40, hcc40, hfr40⟩ := Kd.R_elem HO_8.out z28 (x52_2 : Int) p40 q40
                   obtain rfl := k28_openM hM40
                   have hx40_0 : World.cell? _ ⟨go40, (x52_2 : Int).toNat * 6, none⟩ = some (.string ((rd_T28 x8_2 x52_2).f0.f0)) := hcc40 0 _ rfl
                   have hx40_1 : World.cell? _ ⟨go40, (x52_2 : Int).toNat * 6 + 1, none⟩ = some (.string ((rd_T28 x8_2 x52_2).f0.f1)) := hcc40 1 _ rfl
                   have hx40_2 : World.cell? _ ⟨go40, (x52_2 : Int).toNat * 6 + 2, none⟩ = some (.string ((rd_T28 x8_2 x52_2).f0.f2)) := hcc40 2 _ rfl
                   have hx40_3 : World.cell? _ ⟨go40, (x52_2 : Int).toNat * 6 + 3, none⟩ = some (.string ((rd_T28 x8_2 x52_2).f0.f3)) := hcc40 3 _ rfl
                   have hx40_4 : World.cell? _ ⟨go40, (x52_2 : Int).toNat * 6 + 4, none⟩ = some (.int .i64 ((rd_T28 x8_2 x52_2).f0.f4)) := hcc40 4 _ rfl
                   have hx40_5 : World.cell? _ ⟨go40, (x52_2 : Int).toNat * 6 + 5, none⟩ = some (.int .i64 ((rd_T28 x8_2 x52_2).f1)) := hcc40 5 _ rfl
                   have hf40_0 : World.frozen? _ ⟨go40, (x52_2 : Int).toNat * 6, none⟩ = false := hfr40 0
                   have hf40_1 : World.frozen? _ ⟨go40, (x52_2 : Int).toNat * 6 + 1, none⟩ = false := hfr40 1
                   have hf40_2 : World.frozen? _ ⟨go40, (x52_2 : Int).toNat * 6 + 2, none⟩ = false := hfr40 2
                   have hf40_3 : World.frozen? _ ⟨go40, (x52_2 : Int).toNat * 6 + 3, none⟩ = false := hfr40 3
                   have hf40_4 : World.frozen? _ ⟨go40, (x52_2 : Int).toNat * 6 + 4, none⟩ = false := hfr40 4
                   have hf40_5 : World.frozen? _ ⟨go40, (x52_2 : Int).toNat * 6 + 5, none⟩ = false := hfr40 5
                   clear hcl40 hcc40 hfr40 hM40
                   replace p40 := eq_true p40
                   replace q40 := eq_true q40
                   obtain ⟨ce43, hcl43, hM43, hcc43, hfr43⟩ := Kd.R_elem HO_8.out z28 (x52_2 : Int) (of_decide_eq_true as_) (by have h_ : (x52_2 : Int) < ((x8_2.length : Int) : Int) := of_decide_eq_true as_; first | exact h_ | (have e_ := (Kd.R_reads' HO_8.out).1; omega) | simpa using h_)
                   obtain rfl := k28_openM hM43
                   have HP43 := (Kd.R_seg HO_8.out (x52_2 : Int) (of_decide_eq_true as_) (by have h_ : (x52_2 : Int) < ((x8_2.length : Int) : Int) := of_decide_eq_true as_; first | exact h_ | (have e_ := (Kd.R_reads' HO_8.out).1; omega) | simpa using h_) (seg := [.string ((rd_T28 x8_2 (ji35)).f0.f0), .string ((rd_T28 x8_2 (ji35)).f0.f1), .string ((rd_T28 x8_2 (ji35)).f0.f2), .string ((rd_T28 x8_2 (ji35)).f0.f3), .int .i64 ((rd_T28 x8_2 (ji35)).f0.f4), .int .i64 ((rd_T28 x8_2 (ji35)).f1)]) (j := 0) hcl43 hcc43 (show 6 ≤ 6 from by decide) (x' := (⟨(⟨(rd_T28 x8_2 (ji35)).f0.f0, (rd_T28 x8_2 (ji35)).f0.f1, (rd_T28 x8_2 (ji35)).f0.f2, (rd_T28 x8_2 (ji35)).f0.f3, (rd_T28 x8_2 (ji35)).f0.f4⟩ : S24), (rd_T28 x8_2 (ji35)).f1⟩ : S28)) (k28_mkM _ _ _ (⟨(⟨(rd_T28 x8_2 (ji35)).f0.f0, (rd_T28 x8_2 (ji35)).f0.f1, (rd_T28 x8_2 (ji35)).f0.f2, (rd_T28 x8_2 (ji35)).f0.f3, (rd_T28 x8_2 (ji35)).f0.f4⟩ : S24), (rd_T28 x8_2 (ji35)).f1⟩ : S28) ) (fun _ hk => hk)).1
                   rw [← Ny456.out] at HP43
                   have HQ43 := Aside0.mk HP43
                   clear hcl43 hcc43 hfr43 hM43 HP43
                   have p41 : 0 ≤ ((ji35) : Int) := of_decide_eq_true as_
                   have q41 : ((ji35) : Int) < ((x8_2.length : Int) : Int) := of_decide_eq_true as_
                   obtain ⟨ce41, hcl41, hM41, hcc41, hfr41⟩ := Kd.R_elem HQ43.out z28 ((ji35) : Int) p41 q41
                   obtain rfl := k28_openM hM41
                   have hx41_0 : World.cell? _ ⟨go40, ((ji35) : Int).toNat * 6, none⟩ = some (.string ((rd_T28 y456 (ji35)).f0.f0)) := hcc41 0 _ rfl
                   have hx41_1 : World.cell? _ ⟨go40, ((ji35) : Int).toNat * 6 + 1, none⟩ = some (.string ((rd_T28 y456 (ji35)).f0.f1)) := hcc41 1 _ rfl
                   have hx41_2 : World.cell? _ ⟨go40, ((ji35) : Int).toNat * 6 + 2, none⟩ = some (.string ((rd_T28 y456 (ji35)).f0.f2)) := hcc41 2 _ rfl
                   have hx41_3 : World.cell? _ ⟨go40, ((ji35) : Int).toNat * 6 + 3, none⟩ = some (.string ((rd_T28 y456 (ji35)).f0.f3)) := hcc41 3 _ rfl
                   have hx41_4 : World.cell? _ ⟨go40, ((ji35) : Int).toNat * 6 + 4, none⟩ = some (.int .i64 ((rd_T28 y456 (ji35)).f0.f4)) := hcc41 4 _ rfl
                   have hx41_5 : World.cell? _ ⟨go40, ((ji35) : Int).toNat * 6 + 5, none⟩ = some (.int .i64 ((rd_T28 y456 (ji35)).f1)) := hcc41 5 _ rfl
                   have hf41_0 : World.frozen? _ ⟨go40, ((ji35) : Int).toNat * 6, none⟩ = false := hfr41 0
                   have hf41_1 : World.frozen? _ ⟨go40, ((ji35) : Int).toNat * 6 + 1, none⟩ = false := hfr41 1
                   have hf41_2 : World.frozen? _ ⟨go40, ((ji35) : Int).toNat * 6 + 2, none⟩ = false := hfr41 2
                   have hf41_3 : World.frozen? _ ⟨go40, ((ji35) : Int).toNat * 6 + 3, none⟩ = false := hfr41 3
                   have hf41_4 : World.frozen? _ ⟨go40, ((ji35) : Int).toNat * 6 + 4, none⟩ = false := hfr41 4
                   have hf41_5 : World.frozen? _ ⟨go40, ((ji35) : Int).toNat * 6 + 5, none⟩ = false := hfr41 5
                   clear hcl41 hcc41 hfr41 hM41
                   replace p41 := eq_true p41
                   replace q41 := eq_true q41
                   obtain ⟨ce44, hcl44, hM44, hcc44, hfr44⟩ := Kd.R_elem HQ43.out z28 ((ji35) : Int) (of_decide_eq_true as_) (by have h_ : ((ji35) : Int) < ((x8_2.length : Int) : Int) := of_decide_eq_true as_; first | exact h_ | (have e_ := (Kd.R_reads' HO_8.out).1; omega) | simpa using h_)
                   obtain rfl := k28_openM hM44
                   have HP44 := (Kd.R_seg HQ43.out ((ji35) : Int) (of_decide_eq_true as_) (by have h_ : ((ji35) : Int) < ((x8_2.length : Int) : Int) := of_decide_eq_true as_; first | exact h_ | (have e_ := (Kd.R_reads' HO_8.out).1; omega) | simpa using h_) (seg := [.string ((rd_T28 x8_2 x52_2).f0.f0), .string ((rd_T28 x8_2 x52_2).f0.f1), .string ((rd_T28 x8_2 x52_2).f0.f2), .string ((rd_T28 x8_2 x52_2).f0.f3), .int .i64 ((rd_T28 x8_2 x52_2).f0.f4), .int .i64 ((rd_T28 x8_2 x52_2).f1)]) (j := 0) hcl44 hcc44 (show 6 ≤ 6 from by decide) (x' := (⟨(⟨(rd_T28 x8_2 x52_2).f0.f0, (rd_T28 x8_2 x52_2).f0.f1, (rd_T28 x8_2 x52_2).f0.f2, (rd_T28 x8_2 x52_2).f0.f3, (rd_T28 x8_2 x52_2).f0.f4⟩ : S24), (rd_T28 x8_2 x52_2).f1⟩ : S28)) (k28_mkM _ _ _ (⟨(⟨(rd_T28 x8_2 x52_2).f0.f0, (rd_T28 x8_2 x52_2).f0.f1, (rd_T28 x8_2 x52_2).f0.f2, (rd_T28 x8_2 x52_2).f0.f3, (rd_T28 x8_2 x52_2).f0.f4⟩ : S24), (rd_T28 x8_2 x52_2).f1⟩ : S28) ) (fun _ hk => hk)).1
                   rw [← Ny457.out] at HP44
                   have HQ44 := Aside0.mk HP44
                   clear hcl44 hcc44 hfr44 hM44 HP44
                   refine start_ (n := 24) (S := fun w' => w'.cell? ⟨go40, ((ji35)).toNat * 6, none⟩ = some (.string ((rd_T28 x8_2 (ji35)).f0.f0)) ∧ w'.cell? ⟨go40, ((ji35)).toNat * 6 + 1, none⟩ = some (.string ((rd_T28 x8_2 (ji35)).f0.f1)) ∧ w'.cell? ⟨go40, ((ji35)).toNat * 6 + 2, none⟩ = some (.string ((rd_T28 x8_2 (ji35)).f0.f2)) ∧ w'.cell? ⟨go40, ((ji35)).toNat * 6 + 3, none⟩ = some (.string ((rd_T28 x8_2 (ji35)).f0.f3)) ∧ w'.cell? ⟨go40, ((ji35)).toNat * 6 + 4, none⟩ = some (.int .i64 ((rd_T28 x8_2 (ji35)).f0.f4)) ∧ w'.cell? ⟨go40, ((ji35)).toNat * 6 + 5, none⟩ = some (.int .i64 ((rd_T28 x8_2 (ji35)).f1)) ∧ w'.cell? ⟨go40, ((x52_2).toNat * 6), none⟩ = some (.string ((rd_T28 x8_2 x52_2).f0.f0)) ∧ w'.cell? ⟨go40, ((x52_2).toNat * 6) + 1, none⟩ = some (.string ((rd_T28 x8_2 x52_2).f0.f1)) ∧ w'.cell? ⟨go40, ((x52_2).toNat * 6) + 2, none⟩ = some (.string ((rd_T28 x8_2 x52_2).f0.f2)) ∧ w'.cell? ⟨go40, ((x52_2).toNat * 6) + 3, none⟩ = some (.string ((rd_T28 x8_2 x52_2).f0.f3)) ∧ w'.cell? ⟨go40, ((x52_2).toNat * 6) + 4, none⟩ = some (.int .i64 ((rd_T28 x8_2 x52_2).f0.f4)) ∧ w'.cell? ⟨go40, ((x52_2).toNat * 6) + 5, none⟩ = some (.int .i64 ((rd_T28 x8_2 x52_2).f1))) (ds := [21, 23]) #[false, false, false, false, false, false, false, false, false, false, false, false, false, false, false, false, false, false, false, false, false, false, false, false] (by kernel_rfl) rfl rfl ⟨hx454_0, hx454_1, hx454_2, hx454_3, hx454_4, hx454_5, hx455_0, hx455_1, hx455_2, hx455_3, hx455_4, hx455_5⟩ (fun hHeld => ?_); refine with_tabW comptrollerlaw09_FactOrder.tab11 comptrollerlaw09_FactOrder.bits11 (fun HT_ HW_ => ?_)
                   generalize wr.drew = w42 at HO_8 HB GG40 HQ43 HQ44 hf40_0 hf40_1 hf40_2 hf40_3 hf40_4 hf40_5 hf41_0 hf41_1 hf41_2 hf41_3 hf41_4 hf41_5 hx40_0 hx40_1 hx40_2 hx40_3 hx40_4 hx40_5 hx41_0 hx41_1 hx41_2 hx41_3 hx41_4 hx41_5 hx454_0 hx454_1 hx454_2 hx454_3 hx454_4 hx454_5 hx455_0 hx455_1 hx455_2 hx455_3 hx455_4 hx455_5 hHeld ⊢
                   refine pure_ (i := 0) (N := some 55) (v := ?_) (a' := ?_) #[true, false, false, false, false, false, false, false, false, false, false, false, false, false, false, false, false, false, false, false, false, false, false, false] rfl rfl (any_of HT_.out (by kernel_rfl)) (fun _ _ _ h => h) (Or.inl ⟨by rfl, ?_⟩) ?_ ?_
                   rotate_left
                   ·intro w'
                    go_simp
                    with_reducible rfl
                   rotate_left
                   ·simp only [Act.put, List.setIfInBounds_toArray, List.set_cons_zero, List.set_cons_succ, i64_w, i32_w]
                    rfl
                   refine pure_ (i := 1) (N := some 56) (v := ?_) (a' := ?_) #[true, true, false, false, false, false, false, false, false, false, false, false, false, false, false, false, false, false, false, false, false, false, false, false] rfl rfl (any_of HT_.out (by kernel_rfl)) (fun _ _ _ h => h) (Or.inl ⟨by rfl, ?_⟩) ?_ ?_
                   rotate_left
                   ·intro w'
                    go_simp
                    with_reducible rfl
                   rotate_left
                   ·simp only [Act.put, List.setIfInBounds_toArray, List.set_cons_zero, List.set_cons_succ, i64_w, i32_w]
                    rfl
                   refine pure_ (i := 2) (N := some 57) (v := ?_) (a' := ?_) #[true, true, true, false, false, false, false, false, false, false, false, false, false, false, false, false, false, false, false, false, false, false, false, false] rfl rfl (any_of HT_.out (by kernel_rfl)) (fun _ _ _ h => h) (Or.inl ⟨by rfl, ?_⟩) ?_ ?_
                   rotate_left
                   ·intro w'
                    go_simp
                    with_reducible rfl
                   rotate_left
                   ·simp only [Act.put, List.setIfInBounds_toArray, List.set_cons_zero, List.set_cons_succ, i64_w, i32_w]
                    rfl
                   refine pure_ (i := 3) (N := some 58) (v := ?_) (a' := ?_) #[true, true, true, true, false, false, false, false, false, false, false, false, false, false, false, false, false, false, false, false, false, false, false, false] rfl rfl (any_of HT_.out (by kernel_rfl)) (fun _ _ _ h => h) (Or.inl ⟨by rfl, ?_⟩) ?_ ?_
                   rotate_left
                   ·intro w'
                    go_simp
                    with_reducible rfl
                   rotate_left
                   ·simp only [Act.put, List.setIfInBounds_toArray, List.set_cons_zero, List.set_cons_succ, i64_w, i32_w]
                    rfl
                   refine pure_ (i := 4) (N := some 59) (v := ?_) (a' := ?_) #[true, true, true, true, true, false, false, false, false, false, false, false, false, false, false, false, false, false, false, false, false, false, false, false] rfl rfl (any_of HT_.out (by kernel_rfl)) (fun _ _ _ h => h) (Or.inl ⟨by rfl, ?_⟩) ?_ ?_
                   rotate_left
                   ·intro w'
                    go_simp
                    with_reducible rfl
                   rotate_left
                   ·simp only [Act.put, List.setIfInBounds_toArray, List.set_cons_zero, List.set_cons_succ, i64_w, i32_w]
                    rfl
                   refine pure_ (i := 5) (N := some 60) (v := ?_) (a' := ?_) #[true, true, true, true, true, true, false, false, false, false, false, false, false, false, false, false, false, false, false, false, false, false, false, false] rfl rfl (any_of HT_.out (by kernel_rfl)) (fun _ _ _ h => h) (Or.inl ⟨by rfl, ?_⟩) ?_ ?_
                   rotate_left
                   ·intro w'
                    go_simp
                    with_reducible rfl
                   rotate_left
                   ·simp only [Act.put, List.setIfInBounds_toArray, List.set_cons_zero, List.set_cons_succ, i64_w, i32_w]
                    rfl
                   refine pure_ (i := 6) (N := some 61) (v := ?_) (a' := ?_) #[true, true, true, true, true, true, true, false, false, false, false, false, false, false, false, false, false, false, false, false, false, false, false, false] rfl rfl (any_of HT_.out (by kernel_rfl)) (fun _ _ _ h => h) (Or.inl ⟨by rfl, ?_⟩) ?_ ?_
                   rotate_left
                   ·intro w'
                    go_simp
                    with_reducible rfl
                   rotate_left
                   ·simp only [Act.put, List.setIfInBounds_toArray, List.set_cons_zero, List.set_cons_succ, i64_w, i32_w]
                    rfl
                   refine pure_ (i := 7) (N := some 62) (v := ?_) (a' := ?_) #[true, true, true, true, true, true, true, true, false, false, false, false, false, false, false, false, false, false, false, false, false, false, false, false] rfl rfl (any_of HT_.out (by kernel_rfl)) (fun _ _ _ h => h) (Or.inl ⟨by rfl, ?_⟩) ?_ ?_
                   rotate_left
                   ·intro w'
                    go_simp
                    with_reducible rfl
                   rotate_left
                   ·simp only [Act.put, List.setIfInBounds_toArray, List.set_cons_zero, List.set_cons_succ, i64_w, i32_w]
                    rfl
                   refine pure_ (i := 8) (N := some 63) (v := ?_) (a' := ?_) #[true, true, true, true, true, true, true, true, true, false, false, false, false, false, false, false, false, false, false, false, false, false, false, false] rfl rfl (any_of HT_.out (by kernel_rfl)) (fun _ _ _ h => h) (Or.inl ⟨by rfl, ?_⟩) ?_ ?_
                   rotate_left
                   ·intro w'
                    go_simp
                    with_reducible rfl
                   rotate_left
                   ·simp only [Act.put, List.setIfInBounds_toArray, List.set_cons_zero, List.set_cons_succ, i64_w, i32_w]
                    rfl
                   refine pure_ (i := 9) (N := some 64) (v := ?_) (a' := ?_) #[true, true, true, true, true, true, true, true, true, true, false, false, false, false, false, false, false, false, false, false, false, false, false, false] rfl rfl (any_of HT_.out (by kernel_rfl)) (fun _ _ _ h => h) (Or.inl ⟨by rfl, ?_⟩) ?_ ?_
                   rotate_left
                   ·intro w'
                    go_simp
                    with_reducible rfl
                   rotate_left
                   ·simp only [Act.put, List.setIfInBounds_toArray, List.set_cons_zero, List.set_cons_succ, i64_w, i32_w]
                    rfl
                   refine pure_ (i := 10) (N := some 65) (v := ?_) (a' := ?_) #[true, true, true, true, true, true, true, true, true, true, true, false, false, false, false, false, false, false, false, false, false, false, false, false] rfl rfl (any_of HT_.out (by kernel_rfl)) (fun _ _ _ h => h) (Or.inl ⟨by rfl, ?_⟩) ?_ ?_
                   rotate_left
                   ·intro w'
                    go_simp
                    with_reducible rfl
                   rotate_left
                   ·simp only [Act.put, List.setIfInBounds_toArray, List.set_cons_zero, List.set_cons_succ, i64_w, i32_w]
                    rfl
                   refine pure_ (i := 11) (N := some 66) (v := ?_) (a' := ?_) #[true, true, true, true, true, true, true, true, true, true, true, true, false, false, false, false, false, false, false, false, false, false, false, false] rfl rfl (any_of HT_.out (by kernel_rfl)) (fun _ _ _ h => h) (Or.inl ⟨by rfl, ?_⟩) ?_ ?_
                   rotate_left
                   ·intro w'
                    go_simp
                    with_reducible rfl
                   rotate_left
                   ·simp only [Act.put, List.setIfInBounds_toArray, List.set_cons_zero, List.set_cons_succ, i64_w, i32_w]
                    rfl
                   refine pure_ (i := 12) (N := some 67) (v := ?_) (a' := ?_) #[true, true, true, true, true, true, true, true, true, true, true, true, true, false, false, false, false, false, false, false, false, false, false, false] rfl rfl (any_of HT_.out (by kernel_rfl)) (fun _ _ _ h => h) (Or.inl ⟨by rfl, ?_⟩) ?_ ?_
                   rotate_left
                   ·intro w'
                    go_simp
                    with_reducible rfl
                   rotate_left
                   ·simp only [Act.put, List.setIfInBounds_toArray, List.set_cons_zero, List.set_cons_succ, i64_w, i32_w]
                    rfl
                   refine pure_ (i := 13) (N := some 68) (v := ?_) (a' := ?_) #[true, true, true, true, true, true, true, true, true, true, true, true, true, true, false, false, false, false, false, false, false, false, false, false] rfl rfl (any_of HT_.out (by kernel_rfl)) (fun _ _ _ h => h) (Or.inl ⟨by rfl, ?_⟩) ?_ ?_
                   rotate_left
                   ·intro w'
                    go_simp
                    with_reducible rfl
                   rotate_left
                   ·simp only [Act.put, List.setIfInBounds_toArray, List.set_cons_zero, List.set_cons_succ, i64_w, i32_w]
                    rfl
                   refine pure_ (i := 14) (N := some 69) (v := ?_) (a' := ?_) #[true, true, true, true, true, true, true, true, true, true, true, true, true, true, true, false, false, false, false, false, false, false, false, false] rfl rfl (any_of HT_.out (by kernel_rfl)) (fun _ _ _ h => h) (Or.inl ⟨by rfl, ?_⟩) ?_ ?_
                   rotate_left
                   ·intro w'
                    go_simp
                    with_reducible rfl
                   rotate_left
                   ·simp only [Act.put, List.setIfInBounds_toArray, List.set_cons_zero, List.set_cons_succ, i64_w, i32_w]
                    rfl
                   refine pure_ (i := 16) (N := some 71) (v := ?_) (a' := ?_) #[true, true, true, true, true, true, true, true, true, true, true, true, true, true, true, false, true, false, false, false, false, false, false, false] rfl rfl (any_of HT_.out (by kernel_rfl)) (fun _ _ _ h => h) (Or.inl ⟨by rfl, ?_⟩) ?_ ?_
                   rotate_left
                   ·intro w'
                    go_simp
                    with_reducible rfl
                   rotate_left
                   ·simp only [Act.put, List.setIfInBounds_toArray, List.set_cons_zero, List.set_cons_succ, i64_w, i32_w]
                    rfl
                   refine pure_ (i := 17) (N := some 72) (v := ?_) (a' := ?_) #[true, true, true, true, true, true, true, true, true, true, true, true, true, true, true, false, true, true, false, false, false, false, false, false] rfl rfl (any_of HT_.out (by kernel_rfl)) (fun _ _ _ h => h) (Or.inl ⟨by rfl, ?_⟩) ?_ ?_
                   rotate_left
                   ·intro w'
                    go_simp
                    with_reducible rfl
                   rotate_left
                   ·simp only [Act.put, List.setIfInBounds_toArray, List.set_cons_zero, List.set_cons_succ, i64_w, i32_w]
                    rfl
                   refine pure_ (i := 18) (N := some 73) (v := ?_) (a' := ?_) #[true, true, true, true, true, true, true, true, true, true, true, true, true, true, true, false, true, true, true, false, false, false, false, false] rfl rfl (any_of HT_.out (by kernel_rfl)) (fun _ _ _ h => h) (Or.inl ⟨by rfl, ?_⟩) ?_ ?_
                   rotate_left
                   ·intro w'
                    go_simp
                    with_reducible rfl
                   rotate_left
                   ·simp only [Act.put, List.setIfInBounds_toArray, List.set_cons_zero, List.set_cons_succ, i64_w, i32_w]
                    rfl
                   refine take_ (i := 15) (N := some 70) (v := ?_) (a' := ?_) #[true, true, true, true, true, true, true, true, true, true, true, true, true, true, true, true, true, true, true, false, false, false, false, false] rfl rfl (take_ofW HT_.out HW_.out (by kernel_rfl)) (fun _ _ _ h => h) (Or.inl ⟨by rfl, ?_⟩) hHeld ?_ ?_
                   rotate_left
                   ·rintro w' ⟨s0, s1, s2, s3, s4, s5, s6, s7, s8, s9, s10, s11⟩
                    go_simp
                    with_reducible rfl
                   rotate_left
                   ·simp only [Act.put, List.setIfInBounds_toArray, List.set_cons_zero, List.set_cons_succ, i64_w, i32_w]
                    rfl
                   refine take_ (i := 19) (N := some 74) (v := ?_) (a' := ?_) #[true, true, true, true, true, true, true, true, true, true, true, true, true, true, true, true, true, true, true, true, false, false, false, false] rfl rfl (take_ofW HT_.out HW_.out (by kernel_rfl)) (fun _ _ _ h => h) (Or.inl ⟨by rfl, ?_⟩) hHeld ?_ ?_
                   rotate_left
                   ·rintro w' ⟨s0, s1, s2, s3, s4, s5, s6, s7, s8, s9, s10, s11⟩
                    go_simp
                    with_reducible rfl
                   rotate_left
                   ·simp only [Act.put, List.setIfInBounds_toArray, List.set_cons_zero, List.set_cons_succ, i64_w, i32_w]
                    rfl
                   refine pure_ (i := 20) (N := some 75) (v := ?_) (a' := ?_) #[true, true, true, true, true, true, true, true, true, true, true, true, true, true, true, true, true, true, true, true, true, false, false, false] rfl rfl (any_of HT_.out (by kernel_rfl)) (fun _ _ _ h => h) (Or.inl ⟨by rfl, ?_⟩) ?_ ?_
                   rotate_left
                   ·intro w'
                    go_simp
                    with_reducible rfl
                   rotate_left
                   ·simp only [Act.put, List.setIfInBounds_toArray, List.set_cons_zero, List.set_cons_succ, i64_w, i32_w]
                    rfl
                   refine last_ (i := 21) (N := none) #[true, true, true, true, true, true, true, true, true, true, true, true, true, true, true, true, true, true, true, true, true, true, false, false] rfl rfl (one_of HT_.out (by kernel_rfl)) (by decide) (fun K hK => ?_)
                   refine skip_ (w1 := ?_) (by rfl) rfl ?_ ?_
                   rotate_left
                   ·go_simp
                    rfl
                   refine hK.out _ _ ?_
                   clear hK K
                   refine pure_ (i := 22) (N := some 76) (v := ?_) (a' := ?_) #[true, true, true, true, true, true, true, true, true, true, true, true, true, true, true, true, true, true, true, true, true, true, true, false] rfl rfl (any_of HT_.out (by kernel_rfl)) (fun _ _ _ h => h) (Or.inl ⟨by rfl, ?_⟩) ?_ ?_
                   rotate_left
                   ·intro w'
                    go_simp
                    with_reducible rfl
                   rotate_left
                   ·simp only [Act.put, List.setIfInBounds_toArray, List.set_cons_zero, List.set_cons_succ, i64_w, i32_w]
                    rfl
                   refine last_ (i := 23) (N := none) #[true, true, true, true, true, true, true, true, true, true, true, true, true, true, true, true, true, true, true, true, true, true, true, true] rfl rfl (one_of HT_.out (by kernel_rfl)) (by decide) (fun K hK => ?_)
                   refine skip_ (w1 := ?_) (by rfl) rfl ?_ ?_
                   rotate_left
                   ·obtain ⟨gv_0_0, gy_0_0⟩ := cell?_setCell_some (p := ⟨go40, (x52_2).toNat * 6, none⟩) (x := .string ((rd_T28 x8_2 (ji35)).f0.f0)) hx454_0
                    obtain ⟨gv_1_0, gy_1_0⟩ := cell?_setCell_some (p := ⟨go40, (x52_2).toNat * 6, none⟩) (x := .string ((rd_T28 x8_2 (ji35)).f0.f0)) hx454_1
                    obtain ⟨gv_1_1, gy_1_1⟩ := cell?_setCell_some (p := ⟨go40, (x52_2).toNat * 6 + 1, none⟩) (x := .string ((rd_T28 x8_2 (ji35)).f0.f1)) gy_1_0
                    clear gy_1_0
                    obtain ⟨gv_2_0, gy_2_0⟩ := cell?_setCell_some (p := ⟨go40, (x52_2).toNat * 6, none⟩) (x := .string ((rd_T28 x8_2 (ji35)).f0.f0)) hx454_2
                    obtain ⟨gv_2_1, gy_2_1⟩ := cell?_setCell_some (p := ⟨go40, (x52_2).toNat * 6 + 1, none⟩) (x := .string ((rd_T28 x8_2 (ji35)).f0.f1)) gy_2_0
                    obtain ⟨gv_2_2, gy_2_2⟩ := cell?_setCell_some (p := ⟨go40, (x52_2).toNat * 6 + 2, none⟩) (x := .string ((rd_T28 x8_2 (ji35)).f0.f2)) gy_2_1
                    clear gy_2_0 gy_2_1
                    obtain ⟨gv_3_0, gy_3_0⟩ := cell?_setCell_some (p := ⟨go40, (x52_2).toNat * 6, none⟩) (x := .string ((rd_T28 x8_2 (ji35)).f0.f0)) hx454_3
                    obtain ⟨gv_3_1, gy_3_1⟩ := cell?_setCell_some (p := ⟨go40, (x52_2).toNat * 6 + 1, none⟩) (x := .string ((rd_T28 x8_2 (ji35)).f0.f1)) gy_3_0
                    obtain ⟨gv_3_2, gy_3_2⟩ := cell?_setCell_some (p := ⟨go40, (x52_2).toNat * 6 + 2, none⟩) (x := .string ((rd_T28 x8_2 (ji35)).f0.f2)) gy_3_1
                    obtain ⟨gv_3_3, gy_3_3⟩ := cell?_setCell_some (p := ⟨go40, (x52_2).toNat * 6 + 3, none⟩) (x := .string ((rd_T28 x8_2 (ji35)).f0.f3)) gy_3_2
                    clear gy_3_0 gy_3_1 gy_3_2
                    obtain ⟨gv_4_0, gy_4_0⟩ := cell?_setCell_some (p := ⟨go40, (x52_2).toNat * 6, none⟩) (x := .string ((rd_T28 x8_2 (ji35)).f0.f0)) hx454_4
                    obtain ⟨gv_4_1, gy_4_1⟩ := cell?_setCell_some (p := ⟨go40, (x52_2).toNat * 6 + 1, none⟩) (x := .string ((rd_T28 x8_2 (ji35)).f0.f1)) gy_4_0
                    obtain ⟨gv_4_2, gy_4_2⟩ := cell?_setCell_some (p := ⟨go40, (x52_2).toNat * 6 + 2, none⟩) (x := .string ((rd_T28 x8_2 (ji35)).f0.f2)) gy_4_1
                    obtain ⟨gv_4_3, gy_4_3⟩ := cell?_setCell_some (p := ⟨go40, (x52_2).toNat * 6 + 3, none⟩) (x := .string ((rd_T28 x8_2 (ji35)).f0.f3)) gy_4_2
                    obtain ⟨gv_4_4, gy_4_4⟩ := cell?_setCell_some (p := ⟨go40, (x52_2).toNat * 6 + 4, none⟩) (x := .int .i64 ((rd_T28 x8_2 (ji35)).f0.f4)) gy_4_3
                    clear gy_4_0 gy_4_1 gy_4_2 gy_4_3
                    obtain ⟨gv_5_0, gy_5_0⟩ := cell?_setCell_some (p := ⟨go40, (x52_2).toNat * 6, none⟩) (x := .string ((rd_T28 x8_2 (ji35)).f0.f0)) hx454_5
                    obtain ⟨gv_5_1, gy_5_1⟩ := cell?_setCell_some (p := ⟨go40, (x52_2).toNat * 6 + 1, none⟩) (x := .string ((rd_T28 x8_2 (ji35)).f0.f1)) gy_5_0
                    obtain ⟨gv_5_2, gy_5_2⟩ := cell?_setCell_some (p := ⟨go40, (x52_2).toNat * 6 + 2, none⟩) (x := .string ((rd_T28 x8_2 (ji35)).f0.f2)) gy_5_1
                    obtain ⟨gv_5_3, gy_5_3⟩ := cell?_setCell_some (p := ⟨go40, (x52_2).toNat * 6 + 3, none⟩) (x := .string ((rd_T28 x8_2 (ji35)).f0.f3)) gy_5_2
                    obtain ⟨gv_5_4, gy_5_4⟩ := cell?_setCell_some (p := ⟨go40, (x52_2).toNat * 6 + 4, none⟩) (x := .int .i64 ((rd_T28 x8_2 (ji35)).f0.f4)) gy_5_3
                    obtain ⟨gv_5_5, gy_5_5⟩ := cell?_setCell_some (p := ⟨go40, (x52_2).toNat * 6 + 5, none⟩) (x := .int .i64 ((rd_T28 x8_2 (ji35)).f1)) gy_5_4
                    clear gy_5_0 gy_5_1 gy_5_2 gy_5_3 gy_5_4
                    obtain ⟨_, _, _, _, gfr_⟩ := Kd.R_elem HO_8.out z28 ((ji35) : Int) (of_eq_true p454) (of_eq_true q454)
                    have gf_0 : World.frozen? _ ⟨go40, (ji35).toNat * 6, none⟩ = false := gfr_ 0
                    have gf_1 : World.frozen? _ ⟨go40, (ji35).toNat * 6 + 1, none⟩ = false := gfr_ 1
                    have gf_2 : World.frozen? _ ⟨go40, (ji35).toNat * 6 + 2, none⟩ = false := gfr_ 2
                    have gf_3 : World.frozen? _ ⟨go40, (ji35).toNat * 6 + 3, none⟩ = false := gfr_ 3
                    have gf_4 : World.frozen? _ ⟨go40, (ji35).toNat * 6 + 4, none⟩ = false := gfr_ 4
                    have gf_5 : World.frozen? _ ⟨go40, (ji35).toNat * 6 + 5, none⟩ = false := gfr_ 5
                    clear gfr_
                    go_simp
                    rfl
                   refine hK.out _ _ ?_
                   clear hK K
                   refine done_ (done_of HT_.out (by kernel_rfl)) ?_
                   try go_wp2
                   (try simp only [← hl8_2])
                   go_roundg k2
                   case measure => have := HJ5.out; have := HK2.out; omega
                   case rel => exact ⟨(y457), (wrap64 (x52_2 + 1)), rs_, H', ⟨by have := HJ5.out; have := HK2.out; omega⟩, ⟨by (try simp only [hl8_2]); (with_reducible repeat (first | apply Kd.R_alloc | apply Kd.R_drewN | apply Kd.R_drew)); exact HQ44.out⟩, ⟨by repeat (first | (with_reducible first | exact HB.out | apply below_alloc | apply pw_below_drewN | apply below_drew1 | refine below_set ?_ GB40.out | refine below_set ?_ GB40.out | refine below_set ?_ GB40.out | refine below_set ?_ GB40.out | refine below_set ?_ GB40.out | refine below_set ?_ GB40.out | refine below_set ?_ GB40.out | refine below_set ?_ GB40.out | refine below_set ?_ GB40.out | refine below_set ?_ GB40.out | refine below_set ?_ GB40.out | refine below_set ?_ GB40.out) | exact HB.out)⟩⟩
                  ·rw [if_neg c39] at H
                   exact absurd H (by simp)
                 ·rw [if_neg c38] at H
                  exact absurd H (by simp)
                ·rw [if_neg c37] at H
                 exact absurd H (by simp)
               ·rw [if_neg c36] at H
                exact absurd H (by simp)
              ·rw [if_neg c34] at H
               have c34b0 : decide (x52_2 < (wrap64 ((y451.length : Int) / 2))) = false := decide_eq_false c34
               have c34b1 := c34b0
               (try rw [hl8_2] at c34b1)
               clear c34
               (first | rw [c34b0] | (simp only [i64_w, i32_w]; rw [c34b0]) | skip)
               have H' := Aside0.mk H
               clear H
               go_wp2
               (try simp only [← hl8_2])
               go_meet
               case rel => exact ⟨_, (x8_2), H', ⟨by have := HJ5.out; have := HK2.out; first | omega | exact Nat.le_refl _⟩, ⟨by (try simp only [hl8_2]); (with_reducible repeat (first | apply Kd.R_alloc | apply Kd.R_drewN | apply Kd.R_drew)); exact HO_8.out⟩, ⟨bw⟩⟩
           ·replace c32 := Bool.eq_false_iff.mpr c32
            subst c32
            have H1 : (comptrollerlaw09_FactOrder.j2 kj5 l0 ji19 y451) = some r := by rw [if_neg (show ¬ (false = true) by decide)] at H; exact H
            clear H
            have H := H1
            clear H1
            have H' := Aside0.mk H
            clear H
            go_wp2
            go_meet
            case rel => exact ⟨_, (y451), H', ⟨by have := HJ5.out; first | omega | exact Nat.le_refl _⟩, ⟨by (with_reducible repeat (first | apply Kd.R_alloc | apply Kd.R_drewN | apply Kd.R_drew)); exact HO453.out⟩, ⟨bw⟩⟩
          case rest =>
           clear HC26
           try clear c1
           try clear c2
           try clear p2
           try clear q2
           try clear c3
           try clear c4
           try clear p4
           try clear q4
           try clear hx4
           try clear hf4
           try clear c5
           try clear c6
           try clear p6
           try clear c7
           try clear c9
           try clear c11
           try clear c17
           try clear c18
           try clear c18b0
           try clear c18b1
           try clear c18b2
           try clear c20
           try clear c20b0
           try clear c20b1
           try clear c21
           try clear c21b0
           try clear c21b1
           try clear c22
           try clear c23
           try clear c23b0
           try clear c24
           try clear c24b0
           try clear c25
           try clear c28
           try clear q28
           try clear q29
           try clear c32
           try clear c34
           try clear c34b0
           try clear c36
           try clear c36b0
           try clear c37
           try clear c37b0
           try clear c38
           try clear c38b0
           try clear c39
           try clear c39b0
           try clear c40
           try clear p40
           try clear q40
           try clear hx40
           try clear hf40
           try clear c41
           try clear p41
           try clear q41
           try clear hx41
           try clear hf41
           try clear c43
           try clear c44
           try clear hx40_0
           try clear hx40_1
           try clear hx40_2
           try clear hx40_3
           try clear hx40_4
           try clear hx40_5
           try clear hx41_0
           try clear hx41_1
           try clear hx41_2
           try clear hx41_3
           try clear hx41_4
           try clear hx41_5
           try clear hx454_0
           try clear hx454_1
           try clear hx454_2
           try clear hx454_3
           try clear hx454_4
           try clear hx454_5
           try clear hx455_0
           try clear hx455_1
           try clear hx455_2
           try clear hx455_3
           try clear hx455_4
           try clear hx455_5
           try clear p2
           try clear p40
           try clear p41
           try clear p454
           try clear p455
           try clear p6
           try clear q028
           try clear q2
           try clear q28
           try clear q29
           try clear q40
           try clear q41
           try clear q454
           try clear q455
           obtain ⟨kq, x8_25, HA, HJ25, HO_8, HB⟩ := hcut
           cases kq with
           | zero => exact absurd HA.out (by simp [comptrollerlaw09_FactOrder.j2])
           | succ kj25 =>
            have H := HA.out
            clear HA
            simp only [comptrollerlaw09_FactOrder.j2] at H
            replace H := Option.bind_eq_some_iff.mp H
            obtain ⟨t458, A450, H⟩ := H
            replace H : ((fact_Of.f kj25 t458).bind fun bt461 => ((comptrollerlaw09_Theirs.f kj25 x8_25).bind fun t465 => ((fact_Of.f kj25 t465).bind fun bt468 => (if 0 ≤ ji19 then (if ji19 ≤ (l0.length : Int) then ((comptrollerlaw09_Theirs.f kj25 (l0.take (ji19 : Int).toNat)).bind fun t476 => ((fact_Of.f kj25 t476).bind fun bt479 => ((comptrollerlaw09_Theirs.f kj25 (l0.drop (ji19 : Int).toNat)).bind fun t487 => ((fact_Of.f kj25 t487).bind fun bt490 => ((fact_Add.f kj25 bt479.1 bt490.1).bind fun bt494 => (if bt461.2 = 0 then (if bt468.2 = 0 then (if bt479.2 = 0 then (if bt490.2 = 0 then (if bt494.2 = 0 then ((comptrollerlaw09_Ours.f kj25 bt461.1).bind fun t498 => ((comptrollerlaw09_Ours.f kj25 bt468.1).bind fun t501 => ((comptrollerref09_Same.f kj25 t498 t501).bind fun t504 => (if t504 = true then ((comptrollerlaw09_Ours.f kj25 bt461.1).bind fun t505 => ((comptrollerlaw09_Ours.f kj25 bt494.1).bind fun t508 => ((comptrollerref09_Same.f kj25 t505 t508).bind fun t511 => (if t511 = true then ((fact_Right.f kj25 bt461.1).bind fun t512 => (some t512)) else (none))))) else (none))))) else (none)) else (none)) else (none)) else (none)) else (none))))))) else (none)) else (none))))) = some r := H
            have A45 := Aside0.mk A450
            clear A450
            replace H := Option.bind_eq_some_iff.mp H
            obtain ⟨⟨t461, t462⟩, A460, H⟩ := H
            replace H : ((comptrollerlaw09_Theirs.f kj25 x8_25).bind fun t465 => ((fact_Of.f kj25 t465).bind fun bt468 => (if 0 ≤ ji19 then (if ji19 ≤ (l0.length : Int) then ((comptrollerlaw09_Theirs.f kj25 (l0.take (ji19 : Int).toNat)).bind fun t476 => ((fact_Of.f kj25 t476).bind fun bt479 => ((comptrollerlaw09_Theirs.f kj25 (l0.drop (ji19 : Int).toNat)).bind fun t487 => ((fact_Of.f kj25 t487).bind fun bt490 => ((fact_Add.f kj25 bt479.1 bt490.1).bind fun bt494 => (if t462 = 0 then (if bt468.2 = 0 then (if bt479.2 = 0 then (if bt490.2 = 0 then (if bt494.2 = 0 then ((comptrollerlaw09_Ours.f kj25 t461).bind fun t498 => ((comptrollerlaw09_Ours.f kj25 bt468.1).bind fun t501 => ((comptrollerref09_Same.f kj25 t498 t501).bind fun t504 => (if t504 = true then ((comptrollerlaw09_Ours.f kj25 t461).bind fun t505 => ((comptrollerlaw09_Ours.f kj25 bt494.1).bind fun t508 => ((comptrollerref09_Same.f kj25 t505 t508).bind fun t511 => (if t511 = true then ((fact_Right.f kj25 t461).bind fun t512 => (some t512)) else (none))))) else (none))))) else (none)) else (none)) else (none)) else (none)) else (none))))))) else (none)) else (none)))) = some r := H
            have A46 := Aside0.mk A460
            clear A460
            replace H := Option.bind_eq_some_iff.mp H
            obtain ⟨t465, A470, H⟩ := H
            replace H : ((fact_Of.f kj25 t465).bind fun bt468 => (if 0 ≤ ji19 then (if ji19 ≤ (l0.length : Int) then ((comptrollerlaw09_Theirs.f kj25 (l0.take (ji19 : Int).toNat)).bind fun t476 => ((fact_Of.f kj25 t476).bind fun bt479 => ((comptrollerlaw09_Theirs.f kj25 (l0.drop (ji19 : Int).toNat)).bind fun t487 => ((fact_Of.f kj25 t487).bind fun bt490 => ((fact_Add.f kj25 bt479.1 bt490.1).bind fun bt494 => (if t462 = 0 then (if bt468.2 = 0 then (if bt479.2 = 0 then (if bt490.2 = 0 then (if bt494.2 = 0 then ((comptrollerlaw09_Ours.f kj25 t461).bind fun t498 => ((comptrollerlaw09_Ours.f kj25 bt468.1).bind fun t501 => ((comptrollerref09_Same.f kj25 t498 t501).bind fun t504 => (if t504 = true then ((comptrollerlaw09_Ours.f kj25 t461).bind fun t505 => ((comptrollerlaw09_Ours.f kj25 bt494.1).bind fun t508 => ((comptrollerref09_Same.f kj25 t505 t508).bind fun t511 => (if t511 = true then ((fact_Right.f kj25 t461).bind fun t512 => (some t512)) else (none))))) else (none))))) else (none)) else (none)) else (none)) else (none)) else (none))))))) else (none)) else (none))) = some r := H
            have A47 := Aside0.mk A470
            clear A470
            replace H := Option.bind_eq_some_iff.mp H
            obtain ⟨⟨t468, t469⟩, A480, H⟩ := H
            replace H : (if 0 ≤ ji19 then (if ji19 ≤ (l0.length : Int) then ((comptrollerlaw09_Theirs.f kj25 (l0.take (ji19 : Int).toNat)).bind fun t476 => ((fact_Of.f kj25 t476).bind fun bt479 => ((comptrollerlaw09_Theirs.f kj25 (l0.drop (ji19 : Int).toNat)).bind fun t487 => ((fact_Of.f kj25 t487).bind fun bt490 => ((fact_Add.f kj25 bt479.1 bt490.1).bind fun bt494 => (if t462 = 0 then (if t469 = 0 then (if bt479.2 = 0 then (if bt490.2 = 0 then (if bt494.2 = 0 then ((comptrollerlaw09_Ours.f kj25 t461).bind fun t498 => ((comptrollerlaw09_Ours.f kj25 t468).bind fun t501 => ((comptrollerref09_Same.f kj25 t498 t501).bind fun t504 => (if t504 = true then ((comptrollerlaw09_Ours.f kj25 t461).bind fun t505 => ((comptrollerlaw09_Ours.f kj25 bt494.1).bind fun t508 => ((comptrollerref09_Same.f kj25 t505 t508).bind fun t511 => (if t511 = true then ((fact_Right.f kj25 t461).bind fun t512 => (some t512)) else (none))))) else (none))))) else (none)) else (none)) else (none)) else (none)) else (none))))))) else (none)) else (none)) = some r := H
            have A48 := Aside0.mk A480
            clear A480
            by_cases c49 : 0 ≤ ji19
            ·rw [if_pos c49] at H
             have c49b0 := eq_true c49
             have c49b1 : decide (0 ≤ ji19) = true := decide_eq_true c49
             clear c49
             by_cases c50 : ji19 ≤ (l0.length : Int)
             ·rw [if_pos c50] at H
              have c50b0 := eq_true c50
              have c50b1 : decide (ji19 ≤ (l0.length : Int)) = true := decide_eq_true c50
              clear c50
              obtain ⟨y472, hy472⟩ : ∃ y_ : List (S28), y_ = (l0.take (ji19 : Int).toNat) := ⟨_, rfl⟩
              replace H : ((comptrollerlaw09_Theirs.f kj25 y472).bind fun t476 => ((fact_Of.f kj25 t476).bind fun bt479 => ((comptrollerlaw09_Theirs.f kj25 (l0.drop (ji19 : Int).toNat)).bind fun t487 => ((fact_Of.f kj25 t487).bind fun bt490 => ((fact_Add.f kj25 bt479.1 bt490.1).bind fun bt494 => (if t462 = 0 then (if t469 = 0 then (if bt479.2 = 0 then (if bt490.2 = 0 then (if bt494.2 = 0 then ((comptrollerlaw09_Ours.f kj25 t461).bind fun t498 => ((comptrollerlaw09_Ours.f kj25 t468).bind fun t501 => ((comptrollerref09_Same.f kj25 t498 t501).bind fun t504 => (if t504 = true then ((comptrollerlaw09_Ours.f kj25 t461).bind fun t505 => ((comptrollerlaw09_Ours.f kj25 bt494.1).bind fun t508 => ((comptrollerref09_Same.f kj25 t505 t508).bind fun t511 => (if t511 = true then ((fact_Right.f kj25 t461).bind fun t512 => (some t512)) else (none))))) else (none))))) else (none)) else (none)) else (none)) else (none)) else (none))))))) = some r := by first | (rw [hy472]; with_reducible exact H) | (have H2_ := (Option.bind_some _ _).symm.trans H; rw [hy472]; with_reducible exact H2_) | (have H2_ := (Option.bind_some _ _).symm.trans H; with_reducible exact H2_) | with_reducible exact H | (rw [hy472]; exact H) | exact H
              have Ny472 := Aside0.mk hy472
              clear hy472
              obtain rfl : y472 = y447 := Ny472.out.trans Ny447.out.symm
              replace H := Option.bind_eq_some_iff.mp H
              obtain ⟨t476, A510, H⟩ := H
              replace H : ((fact_Of.f kj25 t476).bind fun bt479 => ((comptrollerlaw09_Theirs.f kj25 (l0.drop (ji19 : Int).toNat)).bind fun t487 => ((fact_Of.f kj25 t487).bind fun bt490 => ((fact_Add.f kj25 bt479.1 bt490.1).bind fun bt494 => (if t462 = 0 then (if t469 = 0 then (if bt479.2 = 0 then (if bt490.2 = 0 then (if bt494.2 = 0 then ((comptrollerlaw09_Ours.f kj25 t461).bind fun t498 => ((comptrollerlaw09_Ours.f kj25 t468).bind fun t501 => ((comptrollerref09_Same.f kj25 t498 t501).bind fun t504 => (if t504 = true then ((comptrollerlaw09_Ours.f kj25 t461).bind fun t505 => ((comptrollerlaw09_Ours.f kj25 bt494.1).bind fun t508 => ((comptrollerref09_Same.f kj25 t505 t508).bind fun t511 => (if t511 = true then ((fact_Right.f kj25 t461).bind fun t512 => (some t512)) else (none))))) else (none))))) else (none)) else (none)) else (none)) else (none)) else (none)))))) = some r := H
              have A51 := Aside0.mk A510
              clear A510
              replace H := Option.bind_eq_some_iff.mp H
              obtain ⟨⟨t479, t480⟩, A520, H⟩ := H
              replace H : ((comptrollerlaw09_Theirs.f kj25 (l0.drop (ji19 : Int).toNat)).bind fun t487 => ((fact_Of.f kj25 t487).bind fun bt490 => ((fact_Add.f kj25 t479 bt490.1).bind fun bt494 => (if t462 = 0 then (if t469 = 0 then (if t480 = 0 then (if bt490.2 = 0 then (if bt494.2 = 0 then ((comptrollerlaw09_Ours.f kj25 t461).bind fun t498 => ((comptrollerlaw09_Ours.f kj25 t468).bind fun t501 => ((comptrollerref09_Same.f kj25 t498 t501).bind fun t504 => (if t504 = true then ((comptrollerlaw09_Ours.f kj25 t461).bind fun t505 => ((comptrollerlaw09_Ours.f kj25 bt494.1).bind fun t508 => ((comptrollerref09_Same.f kj25 t505 t508).bind fun t511 => (if t511 = true then ((fact_Right.f kj25 t461).bind fun t512 => (some t512)) else (none))))) else (none))))) else (none)) else (none)) else (none)) else (none)) else (none))))) = some r := H
              have A52 := Aside0.mk A520
              clear A520
              have c53b0 := eq_true (of_decide_eq_true as_ : 0 ≤ ji19)
              have c54b0 := eq_true (of_decide_eq_true as_ : ji19 ≤ (l0.length : Int))
              obtain ⟨y483, hy483⟩ : ∃ y_ : List (S28), y_ = (l0.drop (ji19 : Int).toNat) := ⟨_, rfl⟩
              replace H : ((comptrollerlaw09_Theirs.f kj25 y483).bind fun t487 => ((fact_Of.f kj25 t487).bind fun bt490 => ((fact_Add.f kj25 t479 bt490.1).bind fun bt494 => (if t462 = 0 then (if t469 = 0 then (if t480 = 0 then (if bt490.2 = 0 then (if bt494.2 = 0 then ((comptrollerlaw09_Ours.f kj25 t461).bind fun t498 => ((comptrollerlaw09_Ours.f kj25 t468).bind fun t501 => ((comptrollerref09_Same.f kj25 t498 t501).bind fun t504 => (if t504 = true then ((comptrollerlaw09_Ours.f kj25 t461).bind fun t505 => ((comptrollerlaw09_Ours.f kj25 bt494.1).bind fun t508 => ((comptrollerref09_Same.f kj25 t505 t508).bind fun t511 => (if t511 = true then ((fact_Right.f kj25 t461).bind fun t512 => (some t512)) else (none))))) else (none))))) else (none)) else (none)) else (none)) else (none)) else (none))))) = some r := by first | (rw [hy483]; with_reducible exact H) | (have H2_ := (Option.bind_some _ _).symm.trans H; rw [hy483]; with_reducible exact H2_) | (have H2_ := (Option.bind_some _ _).symm.trans H; with_reducible exact H2_) | with_reducible exact H | (rw [hy483]; exact H) | exact H
              have Ny483 := Aside0.mk hy483
              clear hy483
              obtain rfl : y483 = y440 := Ny483.out.trans Ny440.out.symm
              replace H := Option.bind_eq_some_iff.mp H
              obtain ⟨t487, A550, H⟩ := H
              replace H : ((fact_Of.f kj25 t487).bind fun bt490 => ((fact_Add.f kj25 t479 bt490.1).bind fun bt494 => (if t462 = 0 then (if t469 = 0 then (if t480 = 0 then (if bt490.2 = 0 then (if bt494.2 = 0 then ((comptrollerlaw09_Ours.f kj25 t461).bind fun t498 => ((comptrollerlaw09_Ours.f kj25 t468).bind fun t501 => ((comptrollerref09_Same.f kj25 t498 t501).bind fun t504 => (if t504 = true then ((comptrollerlaw09_Ours.f kj25 t461).bind fun t505 => ((comptrollerlaw09_Ours.f kj25 bt494.1).bind fun t508 => ((comptrollerref09_Same.f kj25 t505 t508).bind fun t511 => (if t511 = true then ((fact_Right.f kj25 t461).bind fun t512 => (some t512)) else (none))))) else (none))))) else (none)) else (none)) else (none)) else (none)) else (none)))) = some r := H
              have A55 := Aside0.mk A550
              clear A550
              replace H := Option.bind_eq_some_iff.mp H
              obtain ⟨⟨t490, t491⟩, A560, H⟩ := H
              replace H : ((fact_Add.f kj25 t479 t490).bind fun bt494 => (if t462 = 0 then (if t469 = 0 then (if t480 = 0 then (if t491 = 0 then (if bt494.2 = 0 then ((comptrollerlaw09_Ours.f kj25 t461).bind fun t498 => ((comptrollerlaw09_Ours.f kj25 t468).bind fun t501 => ((comptrollerref09_Same.f kj25 t498 t501).bind fun t504 => (if t504 = true then ((comptrollerlaw09_Ours.f kj25 t461).bind fun t505 => ((comptrollerlaw09_Ours.f kj25 bt494.1).bind fun t508 => ((comptrollerref09_Same.f kj25 t505 t508).bind fun t511 => (if t511 = true then ((fact_Right.f kj25 t461).bind fun t512 => (some t512)) else (none))))) else (none))))) else (none)) else (none)) else (none)) else (none)) else (none))) = some r := H
              have A56 := Aside0.mk A560
              clear A560
              replace H := Option.bind_eq_some_iff.mp H
              obtain ⟨⟨t494, t497⟩, A570, H⟩ := H
              replace H : (if t462 = 0 then (if t469 = 0 then (if t480 = 0 then (if t491 = 0 then (if t497 = 0 then ((comptrollerlaw09_Ours.f kj25 t461).bind fun t498 => ((comptrollerlaw09_Ours.f kj25 t468).bind fun t501 => ((comptrollerref09_Same.f kj25 t498 t501).bind fun t504 => (if t504 = true then ((comptrollerlaw09_Ours.f kj25 t461).bind fun t505 => ((comptrollerlaw09_Ours.f kj25 t494).bind fun t508 => ((comptrollerref09_Same.f kj25 t505 t508).bind fun t511 => (if t511 = true then ((fact_Right.f kj25 t461).bind fun t512 => (some t512)) else (none))))) else (none))))) else (none)) else (none)) else (none)) else (none)) else (none)) = some r := H
              have A57 := Aside0.mk A570
              clear A570
              by_cases c58 : t462 = 0
              ·rw [if_pos c58] at H
               have c58b0 : (t462 == 0) = true := beq_iff_eq.mpr c58
               have c58b1 : (t462 != 0) = false := bne_eq_false_iff_eq.mpr c58
               clear c58
               by_cases c59 : t469 = 0
               ·rw [if_pos c59] at H
                have c59b0 : (t469 == 0) = true := beq_iff_eq.mpr c59
                have c59b1 : (t469 != 0) = false := bne_eq_false_iff_eq.mpr c59
                clear c59
                by_cases c60 : t480 = 0
                ·rw [if_pos c60] at H
                 have c60b0 : (t480 == 0) = true := beq_iff_eq.mpr c60
                 have c60b1 : (t480 != 0) = false := bne_eq_false_iff_eq.mpr c60
                 clear c60
                 by_cases c61 : t491 = 0
                 ·rw [if_pos c61] at H
                  have c61b0 : (t491 == 0) = true := beq_iff_eq.mpr c61
                  have c61b1 : (t491 != 0) = false := bne_eq_false_iff_eq.mpr c61
                  clear c61
                  by_cases c62 : t497 = 0
                  ·rw [if_pos c62] at H
                   have c62b0 : (t497 == 0) = true := beq_iff_eq.mpr c62
                   have c62b1 : (t497 != 0) = false := bne_eq_false_iff_eq.mpr c62
                   clear c62
                   replace H := Option.bind_eq_some_iff.mp H
                   obtain ⟨t498, A630, H⟩ := H
                   replace H : ((comptrollerlaw09_Ours.f kj25 t468).bind fun t501 => ((comptrollerref09_Same.f kj25 t498 t501).bind fun t504 => (if t504 = true then ((comptrollerlaw09_Ours.f kj25 t461).bind fun t505 => ((comptrollerlaw09_Ours.f kj25 t494).bind fun t508 => ((comptrollerref09_Same.f kj25 t505 t508).bind fun t511 => (if t511 = true then ((fact_Right.f kj25 t461).bind fun t512 => (some t512)) else (none))))) else (none)))) = some r := H
                   have A63 := Aside0.mk A630
                   clear A630
                   replace H := Option.bind_eq_some_iff.mp H
                   obtain ⟨t501, A640, H⟩ := H
                   replace H : ((comptrollerref09_Same.f kj25 t498 t501).bind fun t504 => (if t504 = true then ((comptrollerlaw09_Ours.f kj25 t461).bind fun t505 => ((comptrollerlaw09_Ours.f kj25 t494).bind fun t508 => ((comptrollerref09_Same.f kj25 t505 t508).bind fun t511 => (if t511 = true then ((fact_Right.f kj25 t461).bind fun t512 => (some t512)) else (none))))) else (none))) = some r := H
                   have A64 := Aside0.mk A640
                   clear A640
                   replace H := Option.bind_eq_some_iff.mp H
                   obtain ⟨t504, A650, H⟩ := H
                   replace H : (if t504 = true then ((comptrollerlaw09_Ours.f kj25 t461).bind fun t505 => ((comptrollerlaw09_Ours.f kj25 t494).bind fun t508 => ((comptrollerref09_Same.f kj25 t505 t508).bind fun t511 => (if t511 = true then ((fact_Right.f kj25 t461).bind fun t512 => (some t512)) else (none))))) else (none)) = some r := H
                   have A65 := Aside0.mk A650
                   clear A650
                   by_cases c66 : t504 = true
                   ·subst c66
                    have H1 : ((comptrollerlaw09_Ours.f kj25 t461).bind fun t505 => ((comptrollerlaw09_Ours.f kj25 t494).bind fun t508 => ((comptrollerref09_Same.f kj25 t505 t508).bind fun t511 => (if t511 = true then ((fact_Right.f kj25 t461).bind fun t512 => (some t512)) else (none))))) = some r := by rw [if_pos rfl] at H; exact H
                    clear H
                    have H := H1
                    clear H1
                    replace H := Option.bind_eq_some_iff.mp H
                    obtain ⟨t505, A670, H⟩ := H
                    replace H : ((comptrollerlaw09_Ours.f kj25 t494).bind fun t508 => ((comptrollerref09_Same.f kj25 t505 t508).bind fun t511 => (if t511 = true then ((fact_Right.f kj25 t461).bind fun t512 => (some t512)) else (none)))) = some r := H
                    have A67 := Aside0.mk A670
                    clear A670
                    replace H := Option.bind_eq_some_iff.mp H
                    obtain ⟨t508, A680, H⟩ := H
                    replace H : ((comptrollerref09_Same.f kj25 t505 t508).bind fun t511 => (if t511 = true then ((fact_Right.f kj25 t461).bind fun t512 => (some t512)) else (none))) = some r := H
                    have A68 := Aside0.mk A680
                    clear A680
                    replace H := Option.bind_eq_some_iff.mp H
                    obtain ⟨t511, A690, H⟩ := H
                    replace H : (if t511 = true then ((fact_Right.f kj25 t461).bind fun t512 => (some t512)) else (none)) = some r := H
                    have A69 := Aside0.mk A690
                    clear A690
                    by_cases c70 : t511 = true
                    ·subst c70
                     have H1 : ((fact_Right.f kj25 t461).bind fun t512 => (some t512)) = some r := by rw [if_pos rfl] at H; exact H
                     clear H
                     have H := H1
                     clear H1
                     replace H := Option.bind_eq_some_iff.mp H
                     obtain ⟨t512, A710, H⟩ := H
                     replace H : (some t512) = some r := H
                     have A71 := Aside0.mk A710
                     clear A710
                     obtain rfl := Option.some.inj H
                     go_wp2_with (first | ((with_reducible refine gate_callee (f := 10) rfl ?_); refine goesL_ (some 80) rfl rfl Try.func10 (by kernel_rfl) rfl #[.slice A0 l0.length c0] rfl mp_ ?_; (with_reducible refine (comptrollerlaw09_Theirs.calls kj25 _ _ l0 t458 _ ?side1 ?side2 A45.out).mono ?_); (case side1 => repeat (first | exact (Kd.C_below HR0.out HB.out) | (with_reducible refine Kd.C_alloc ?_ _) | (with_reducible refine Kd.C_drewN ?_ _) | (with_reducible refine Kd.C_drew ?_))); (case side2 => exact HC0.out); rintro e w72 ⟨v459, rfl, ho0, hb⟩; refine ⟨_, rfl, ?_⟩; have n0_ := Aside0.mk (Kd.R_below (kr HO_8) hb); have n1_ := Aside0.mk (Kd.R_lower ho0 (below_size bw)); have n2_ := Aside0.mk (below_step bw hb); clear HO_8; clear HB; have HO_8 := n0_; have HO460 := n1_; have HB := n2_; clear n0_ n1_ n2_; (try clear hb); (try clear hb2); (try clear hk); (try clear hi); (try clear ho0); obtain ⟨Ao73, co73, eo73⟩ := Kd.R_slice HO460.out; subst eo73) | ((with_reducible refine gate_callee (f := 21) rfl ?_); refine goesL_ (some 81) rfl rfl Try.func21 (by kernel_rfl) rfl #[.slice Ao73 t458.length co73] rfl mp_ ?_; (with_reducible refine (fact_Of.calls kj25 _ _ t458 t461 t462 _ ?side1 ?side2 A46.out).mono ?_); (case side1 => repeat (first | exact (Kd.R_reads' HO460.out).2.2 | (with_reducible refine Kd.C_alloc ?_ _) | (with_reducible refine Kd.C_drewN ?_ _) | (with_reducible refine Kd.C_drew ?_))); (case side2 => exact (Kd.R_reads' HO460.out).2.1); rintro e w74 ⟨v463, rfl, ho0, hb⟩; refine ⟨_, rfl, ?_⟩; have n0_ := Aside0.mk (Kd.R_below (kr HO_8) hb); have n1_ := Aside0.mk (Kd.R_elder' (kr HO460) (Kd.R_base ho0) hb); have n2_ := Aside0.mk (Kd.R_lower (Kd.R_new' ho0 (Kd.R_lt (kr HO460))) (below_size bw)); have n3_ := Aside0.mk (below_step bw hb); clear HO_8; clear HO460; clear HB; have HO_8 := n0_; have HO460 := n1_; have HO464 := n2_; have HB := n3_; clear n0_ n1_ n2_ n3_; (try clear hb); (try clear hb2); (try clear hk); (try clear hi); (try clear ho0); obtain ⟨Ao75, co75, eo75⟩ := Kd.R_slice HO_8.out; subst eo75) | ((with_reducible refine gate_callee (f := 10) rfl ?_); refine goesL_ (some 86) rfl rfl Try.func10 (by kernel_rfl) rfl #[.slice Ao75 x8_25.length co75] rfl mp_ ?_; (with_reducible refine (comptrollerlaw09_Theirs.calls kj25 _ _ x8_25 t465 _ ?side1 ?side2 A47.out).mono ?_); (case side1 => repeat (first | exact (Kd.R_reads' HO_8.out).2.2 | (with_reducible refine Kd.C_alloc ?_ _) | (with_reducible refine Kd.C_drewN ?_ _) | (with_reducible refine Kd.C_drew ?_))); (case side2 => exact (Kd.R_reads' HO_8.out).2.1); rintro e w76 ⟨v466, rfl, ho0, hb⟩; refine ⟨_, rfl, ?_⟩; have n0_ := Aside0.mk (Kd.R_below (kr HO_8) hb); have n1_ := Aside0.mk (Kd.R_elder' (kr HO460) (Kd.R_base ho0) hb); have n2_ := Aside0.mk (Kd.R_elder' (kr HO464) (Kd.R_base ho0) hb); have n3_ := Aside0.mk (Kd.R_lower (Kd.R_new' (Kd.R_new' ho0 (Kd.R_lt (kr HO460))) (Kd.R_lt (kr HO464))) (below_size bw)); have n4_ := Aside0.mk (below_step bw hb); clear HO_8; clear HO460; clear HO464; clear HB; have HO_8 := n0_; have HO460 := n1_; have HO464 := n2_; have HO467 := n3_; have HB := n4_; clear n0_ n1_ n2_ n3_ n4_; (try clear hb); (try clear hb2); (try clear hk); (try clear hi); (try clear ho0); obtain ⟨Ao77, co77, eo77⟩ := Kd.R_slice HO467.out; subst eo77) | ((with_reducible refine gate_callee (f := 21) rfl ?_); refine goesL_ (some 87) rfl rfl Try.func21 (by kernel_rfl) rfl #[.slice Ao77 t465.length co77] rfl mp_ ?_; (with_reducible refine (fact_Of.calls kj25 _ _ t465 t468 t469 _ ?side1 ?side2 A48.out).mono ?_); (case side1 => repeat (first | exact (Kd.R_reads' HO467.out).2.2 | (with_reducible refine Kd.C_alloc ?_ _) | (with_reducible refine Kd.C_drewN ?_ _) | (with_reducible refine Kd.C_drew ?_))); (case side2 => exact (Kd.R_reads' HO467.out).2.1); rintro e w78 ⟨v470, rfl, ho0, hb⟩; refine ⟨_, rfl, ?_⟩; have n0_ := Aside0.mk (Kd.R_below (kr HO_8) hb); have n1_ := Aside0.mk (Kd.R_elder' (kr HO460) (Kd.R_base ho0) hb); have n2_ := Aside0.mk (Kd.R_elder' (kr HO464) (Kd.R_base ho0) hb); have n3_ := Aside0.mk (Kd.R_elder' (kr HO467) (Kd.R_base ho0) hb); have n4_ := Aside0.mk (Kd.R_lower (Kd.R_new' (Kd.R_new' (Kd.R_new' ho0 (Kd.R_lt (kr HO460))) (Kd.R_lt (kr HO464))) (Kd.R_lt (kr HO467))) (below_size bw)); have n5_ := Aside0.mk (below_step bw hb); clear HO_8; clear HO460; clear HO464; clear HO467; clear HB; have HO_8 := n0_; have HO460 := n1_; have HO464 := n2_; have HO467 := n3_; have HO471 := n4_; have HB := n5_; clear n0_ n1_ n2_ n3_ n4_ n5_; (try clear hb); (try clear hb2); (try clear hk); (try clear hi); (try clear ho0); have q79 : (ji19 : Int) ≤ ((l0.length : Int) : Int) := of_decide_eq_true as_; obtain ⟨i079, hi079, _, hsz79, _⟩ := info_parts info28; have hroom79 : l0.length ≤ c0 := HC0.out; have hC79 : Kd.C k28 _ A0 l0.length l0 := HR0.out; have hcut79 := cut_to (P := Try.prog) 22 28 .i64 Try.underlying22 hi079 A0 l0.length c0 ji19 (of_decide_eq_true as_) q79 hroom79; have hr79 := Kd.C_take (m := (ji19 : Int).toNat) hC79 (by omega); have hy79 : y472.length = (ji19 : Int).toNat := (by rw [Ny472.out, List.length_take]; omega); rw [← Ny472.out] at hr79; rw [← hy79] at hcut79; have HR475 := Aside0.mk hr79; have HC475 := Aside0.mk (show y472.length ≤ c0 from by omega); clear hr79 hC79 hroom79 hi079 hsz79; have KY79 := Aside0.mk hy79; clear hy79; replace q79 := eq_true q79) | ((with_reducible refine gate_callee (f := 10) rfl ?_); refine goesL_ (some 94) rfl rfl Try.func10 (by kernel_rfl) rfl #[.slice A0 y472.length c0] rfl mp_ ?_; (with_reducible refine (comptrollerlaw09_Theirs.calls kj25 _ _ y472 t476 _ ?side1 ?side2 A51.out).mono ?_); (case side1 => repeat (first | exact (Kd.C_below HR475.out HB.out) | (with_reducible refine Kd.C_alloc ?_ _) | (with_reducible refine Kd.C_drewN ?_ _) | (with_reducible refine Kd.C_drew ?_))); (case side2 => exact HC475.out); rintro e w80 ⟨v477, rfl, ho0, hb⟩; refine ⟨_, rfl, ?_⟩; have n0_ := Aside0.mk (Kd.R_below (kr HO_8) hb); have n1_ := Aside0.mk (Kd.R_elder' (kr HO460) (Kd.R_base ho0) hb); have n2_ := Aside0.mk (Kd.R_elder' (kr HO464) (Kd.R_base ho0) hb); have n3_ := Aside0.mk (Kd.R_elder' (kr HO467) (Kd.R_base ho0) hb); have n4_ := Aside0.mk (Kd.R_elder' (kr HO471) (Kd.R_base ho0) hb); have n5_ := Aside0.mk (Kd.R_lower (Kd.R_new' (Kd.R_new' (Kd.R_new' (Kd.R_new' ho0 (Kd.R_lt (kr HO460))) (Kd.R_lt (kr HO464))) (Kd.R_lt (kr HO467))) (Kd.R_lt (kr HO471))) (below_size bw)); have n6_ := Aside0.mk (below_step bw hb); clear HO_8; clear HO460; clear HO464; clear HO467; clear HO471; clear HB; have HO_8 := n0_; have HO460 := n1_; have HO464 := n2_; have HO467 := n3_; have HO471 := n4_; have HO478 := n5_; have HB := n6_; clear n0_ n1_ n2_ n3_ n4_ n5_ n6_; (try clear hb); (try clear hb2); (try clear hk); (try clear hi); (try clear ho0); obtain ⟨Ao81, co81, eo81⟩ := Kd.R_slice HO478.out; subst eo81) | ((with_reducible refine gate_callee (f := 21) rfl ?_); refine goesL_ (some 95) rfl rfl Try.func21 (by kernel_rfl) rfl #[.slice Ao81 t476.length co81] rfl mp_ ?_; (with_reducible refine (fact_Of.calls kj25 _ _ t476 t479 t480 _ ?side1 ?side2 A52.out).mono ?_); (case side1 => repeat (first | exact (Kd.R_reads' HO478.out).2.2 | (with_reducible refine Kd.C_alloc ?_ _) | (with_reducible refine Kd.C_drewN ?_ _) | (with_reducible refine Kd.C_drew ?_))); (case side2 => exact (Kd.R_reads' HO478.out).2.1); rintro e w82 ⟨v481, rfl, ho0, hb⟩; refine ⟨_, rfl, ?_⟩; have n0_ := Aside0.mk (Kd.R_below (kr HO_8) hb); have n1_ := Aside0.mk (Kd.R_elder' (kr HO460) (Kd.R_base ho0) hb); have n2_ := Aside0.mk (Kd.R_elder' (kr HO464) (Kd.R_base ho0) hb); have n3_ := Aside0.mk (Kd.R_elder' (kr HO467) (Kd.R_base ho0) hb); have n4_ := Aside0.mk (Kd.R_elder' (kr HO471) (Kd.R_base ho0) hb); have n5_ := Aside0.mk (Kd.R_elder' (kr HO478) (Kd.R_base ho0) hb); have n6_ := Aside0.mk (Kd.R_lower (Kd.R_new' (Kd.R_new' (Kd.R_new' (Kd.R_new' (Kd.R_new' ho0 (Kd.R_lt (kr HO460))) (Kd.R_lt (kr HO464))) (Kd.R_lt (kr HO467))) (Kd.R_lt (kr HO471))) (Kd.R_lt (kr HO478))) (below_size bw)); have n7_ := Aside0.mk (below_step bw hb); clear HO_8; clear HO460; clear HO464; clear HO467; clear HO471; clear HO478; clear HB; have HO_8 := n0_; have HO460 := n1_; have HO464 := n2_; have HO467 := n3_; have HO471 := n4_; have HO478 := n5_; have HO482 := n6_; have HB := n7_; clear n0_ n1_ n2_ n3_ n4_ n5_ n6_ n7_; (try clear hb); (try clear hb2); (try clear hk); (try clear hi); (try clear ho0); have q83 : (ji19 : Int) ≤ ((l0.length : Int) : Int) := of_decide_eq_true as_; obtain ⟨i083, hi083, _, hsz83, _⟩ := info_parts info28; have hroom83 : l0.length ≤ c0 := HC0.out; have hC83 : Kd.C k28 _ A0 l0.length l0 := HR0.out; have q083 : (0 : Int) ≤ (ji19 : Int) := of_decide_eq_true as_; clear hcut28; have hcut83 := cut_from (P := Try.prog) 22 28 .i64 Try.underlying22 hi083 6 hsz83 A0 l0.length c0 ji19 q083 q83; have hr83 := Kd.C_drop (m := (ji19 : Int).toNat) (c := c0) hC83 (by omega) hroom83; obtain ⟨A83, hA83⟩ : ∃ A1, A1 = (if c0 = (ji19 : Int).toNat then A0 else (A0 : Option Addr).map (·.add ((ji19 : Int).toNat * 6))) := ⟨_, rfl⟩; obtain ⟨c83, hc83⟩ : ∃ c1, c1 = c0 - (ji19 : Int).toNat := ⟨_, rfl⟩; have hy83 : y483.length = l0.length - (ji19 : Int).toNat := (by rw [Ny483.out, List.length_drop] <;> omega); rw [show (l0).drop (ji19 : Int).toNat = y483 from Ny483.out.symm] at hr83; replace hr83 : Kd.C k28 _ A83 y483.length y483 := (by rw [hA83]; exact hr83); rw [← hy83, ← hA83, ← hc83] at hcut83; have HR486 := Aside0.mk hr83; have HC486 := Aside0.mk (show y483.length ≤ c83 from by rw [hy83, hc83]; exact Nat.sub_le_sub_right hroom83 _); clear hr83 hC83 hroom83 hi083 hsz83 hc83; have KY83 := Aside0.mk hy83; have KA83 := Aside0.mk hA83; clear hy83 hA83; replace q83 := eq_true q83) | ((with_reducible refine gate_callee (f := 10) rfl ?_); refine goesL_ (some 102) rfl rfl Try.func10 (by kernel_rfl) rfl #[.slice A83 y483.length c83] rfl mp_ ?_; (with_reducible refine (comptrollerlaw09_Theirs.calls kj25 _ _ y483 t487 _ ?side1 ?side2 A55.out).mono ?_); (case side1 => repeat (first | exact (Kd.C_below HR486.out HB.out) | (with_reducible refine Kd.C_alloc ?_ _) | (with_reducible refine Kd.C_drewN ?_ _) | (with_reducible refine Kd.C_drew ?_))); (case side2 => exact HC486.out); rintro e w84 ⟨v488, rfl, ho0, hb⟩; refine ⟨_, rfl, ?_⟩; have n0_ := Aside0.mk (Kd.R_below (kr HO_8) hb); have n1_ := Aside0.mk (Kd.R_elder' (kr HO460) (Kd.R_base ho0) hb); have n2_ := Aside0.mk (Kd.R_elder' (kr HO464) (Kd.R_base ho0) hb); have n3_ := Aside0.mk (Kd.R_elder' (kr HO467) (Kd.R_base ho0) hb); have n4_ := Aside0.mk (Kd.R_elder' (kr HO471) (Kd.R_base ho0) hb); have n5_ := Aside0.mk (Kd.R_elder' (kr HO478) (Kd.R_base ho0) hb); have n6_ := Aside0.mk (Kd.R_elder' (kr HO482) (Kd.R_base ho0) hb); have n7_ := Aside0.mk (Kd.R_lower (Kd.R_new' (Kd.R_new' (Kd.R_new' (Kd.R_new' (Kd.R_new' (Kd.R_new' ho0 (Kd.R_lt (kr HO460))) (Kd.R_lt (kr HO464))) (Kd.R_lt (kr HO467))) (Kd.R_lt (kr HO471))) (Kd.R_lt (kr HO478))) (Kd.R_lt (kr HO482))) (below_size bw)); have n8_ := Aside0.mk (below_step bw hb); clear HO_8; clear HO460; clear HO464; clear HO467; clear HO471; clear HO478; clear HO482; clear HB; have HO_8 := n0_; have HO460 := n1_; have HO464 := n2_; have HO467 := n3_; have HO471 := n4_; have HO478 := n5_; have HO482 := n6_; have HO489 := n7_; have HB := n8_; clear n0_ n1_ n2_ n3_ n4_ n5_ n6_ n7_ n8_; (try clear hb); (try clear hb2); (try clear hk); (try clear hi); (try clear ho0); obtain ⟨Ao85, co85, eo85⟩ := Kd.R_slice HO489.out; subst eo85) | ((with_reducible refine gate_callee (f := 21) rfl ?_); refine goesL_ (some 103) rfl rfl Try.func21 (by kernel_rfl) rfl #[.slice Ao85 t487.length co85] rfl mp_ ?_; (with_reducible refine (fact_Of.calls kj25 _ _ t487 t490 t491 _ ?side1 ?side2 A56.out).mono ?_); (case side1 => repeat (first | exact (Kd.R_reads' HO489.out).2.2 | (with_reducible refine Kd.C_alloc ?_ _) | (with_reducible refine Kd.C_drewN ?_ _) | (with_reducible refine Kd.C_drew ?_))); (case side2 => exact (Kd.R_reads' HO489.out).2.1); rintro e w86 ⟨v492, rfl, ho0, hb⟩; refine ⟨_, rfl, ?_⟩; have n0_ := Aside0.mk (Kd.R_below (kr HO_8) hb); have n1_ := Aside0.mk (Kd.R_elder' (kr HO460) (Kd.R_base ho0) hb); have n2_ := Aside0.mk (Kd.R_elder' (kr HO464) (Kd.R_base ho0) hb); have n3_ := Aside0.mk (Kd.R_elder' (kr HO467) (Kd.R_base ho0) hb); have n4_ := Aside0.mk (Kd.R_elder' (kr HO471) (Kd.R_base ho0) hb); have n5_ := Aside0.mk (Kd.R_elder' (kr HO478) (Kd.R_base ho0) hb); have n6_ := Aside0.mk (Kd.R_elder' (kr HO482) (Kd.R_base ho0) hb); have n7_ := Aside0.mk (Kd.R_elder' (kr HO489) (Kd.R_base ho0) hb); have n8_ := Aside0.mk (Kd.R_lower (Kd.R_new' (Kd.R_new' (Kd.R_new' (Kd.R_new' (Kd.R_new' (Kd.R_new' (Kd.R_new' ho0 (Kd.R_lt (kr HO460))) (Kd.R_lt (kr HO464))) (Kd.R_lt (kr HO467))) (Kd.R_lt (kr HO471))) (Kd.R_lt (kr HO478))) (Kd.R_lt (kr HO482))) (Kd.R_lt (kr HO489))) (below_size bw)); have n9_ := Aside0.mk (below_step bw hb); clear HO_8; clear HO460; clear HO464; clear HO467; clear HO471; clear HO478; clear HO482; clear HO489; clear HB; have HO_8 := n0_; have HO460 := n1_; have HO464 := n2_; have HO467 := n3_; have HO471 := n4_; have HO478 := n5_; have HO482 := n6_; have HO489 := n7_; have HO493 := n8_; have HB := n9_; clear n0_ n1_ n2_ n3_ n4_ n5_ n6_ n7_ n8_ n9_; (try clear hb); (try clear hb2); (try clear hk); (try clear hi); (try clear ho0); obtain ⟨Ao87, co87, eo87⟩ := Kd.R_slice HO482.out; subst eo87; obtain ⟨Ao88, co88, eo88⟩ := Kd.R_slice HO493.out; subst eo88) | ((with_reducible refine gate_callee (f := 9) rfl ?_); refine goesL_ (some 109) rfl rfl Try.func9 (by kernel_rfl) rfl #[.slice Ao87 t479.length co87, .slice Ao88 t490.length co88] rfl mp_ ?_; (with_reducible refine (fact_Add.calls kj25 (fun k_ => some k_ = (.slice Ao87 t479.length co87 : Value).ownBlock) _ _ t479 (fun k_ => some k_ = (.slice Ao88 t490.length co88 : Value).ownBlock) _ _ t490 t494 t497 _ ?side1 ?side2 A57.out).mono ?_); (case side1 => exact Kd.R_V (Kd.R_tight rfl (Kd.R_apart' (HO482.out) (Kd.R_typed HO_8.out) (by decide)))); (case side2 => exact Kd.R_V (Kd.R_tight rfl (Kd.R_apart' (HO493.out) (Kd.R_typed HO_8.out) (by decide)))); rintro e w89 ⟨v495, rfl, ho0, hb⟩; refine ⟨_, rfl, ?_⟩; have n0_ := Aside0.mk (Kd.R_below (kr HO_8) hb); have n1_ := Aside0.mk (Kd.R_elder' (kr HO460) (Kd.R_base ho0) hb); have n2_ := Aside0.mk (Kd.R_elder' (kr HO464) (Kd.R_base ho0) hb); have n3_ := Aside0.mk (Kd.R_elder' (kr HO467) (Kd.R_base ho0) hb); have n4_ := Aside0.mk (Kd.R_elder' (kr HO471) (Kd.R_base ho0) hb); have n5_ := Aside0.mk (Kd.R_elder' (kr HO478) (Kd.R_base ho0) hb); have n6_ := Aside0.mk (Kd.R_elder' (kr HO482) (Kd.R_base ho0) hb); have n7_ := Aside0.mk (Kd.R_elder' (kr HO489) (Kd.R_base ho0) hb); have n8_ := Aside0.mk (Kd.R_elder' (kr HO493) (Kd.R_base ho0) hb); have n9_ := Aside0.mk (Kd.R_lower (Kd.R_new' (Kd.R_new' (Kd.R_new' (Kd.R_new' (Kd.R_new' (Kd.R_new' (Kd.R_new' (Kd.R_new' (Kd.R_mono (ok' := fun k_ => True) ho0 (fun _ hk_ => trivial)) (Kd.R_lt (kr HO460))) (Kd.R_lt (kr HO464))) (Kd.R_lt (kr HO467))) (Kd.R_lt (kr HO471))) (Kd.R_lt (kr HO478))) (Kd.R_lt (kr HO482))) (Kd.R_lt (kr HO489))) (Kd.R_lt (kr HO493))) (below_size bw)); have n10_ := Aside0.mk (below_step bw hb); clear HO_8; clear HO460; clear HO464; clear HO467; clear HO471; clear HO478; clear HO482; clear HO489; clear HO493; clear HB; have HO_8 := n0_; have HO460 := n1_; have HO464 := n2_; have HO467 := n3_; have HO471 := n4_; have HO478 := n5_; have HO482 := n6_; have HO489 := n7_; have HO493 := n8_; have HO496 := n9_; have HB := n10_; clear n0_ n1_ n2_ n3_ n4_ n5_ n6_ n7_ n8_ n9_ n10_; (try clear hb); (try clear hb2); (try clear hk); (try clear hi); (try clear ho0); obtain ⟨Ao90, co90, eo90⟩ := Kd.R_slice HO464.out; subst eo90) | (go_at_call 15; (with_reducible refine (comptrollerlaw09_Ours.calls kj25 _ _ t461 t498 _ ?side1 ?side2 A63.out).mono ?_); (case side1 => repeat (first | exact (Kd.R_reads' HO464.out).2.2 | (with_reducible refine Kd.C_alloc ?_ _) | (with_reducible refine Kd.C_drewN ?_ _) | (with_reducible refine Kd.C_drew ?_))); (case side2 => exact (Kd.R_reads' HO464.out).2.1); rintro e w91 ⟨v499, rfl, ho0, hb⟩; have n0_ := Aside0.mk (Kd.R_elder' (kr HO_8) (Kd.R_base ho0) hb); have n1_ := Aside0.mk (Kd.R_below (kr HO460) hb); have n2_ := Aside0.mk (Kd.R_below (kr HO464) hb); have n3_ := Aside0.mk (Kd.R_below (kr HO467) hb); have n4_ := Aside0.mk (Kd.R_below (kr HO471) hb); have n5_ := Aside0.mk (Kd.R_below (kr HO478) hb); have n6_ := Aside0.mk (Kd.R_below (kr HO482) hb); have n7_ := Aside0.mk (Kd.R_below (kr HO489) hb); have n8_ := Aside0.mk (Kd.R_below (kr HO493) hb); have n9_ := Aside0.mk (Kd.R_below (kr HO496) hb); have n10_ := Aside0.mk (Kd.R_lower (Kd.R_new' ho0 (Kd.R_lt (kr HO_8))) (below_size bw)); have n11_ := Aside0.mk (below_step bw hb); clear HO_8; clear HO460; clear HO464; clear HO467; clear HO471; clear HO478; clear HO482; clear HO489; clear HO493; clear HO496; clear HB; have HO_8 := n0_; have HO460 := n1_; have HO464 := n2_; have HO467 := n3_; have HO471 := n4_; have HO478 := n5_; have HO482 := n6_; have HO489 := n7_; have HO493 := n8_; have HO496 := n9_; have HO500 := n10_; have HB := n11_; clear n0_ n1_ n2_ n3_ n4_ n5_ n6_ n7_ n8_ n9_ n10_ n11_; (try clear hb); (try clear hb2); (try clear hk); (try clear hi); (try clear ho0); obtain ⟨Ao92, co92, eo92⟩ := Kd.R_slice HO471.out; subst eo92) | (go_at_call 15; (with_reducible refine (comptrollerlaw09_Ours.calls kj25 _ _ t468 t501 _ ?side1 ?side2 A64.out).mono ?_); (case side1 => repeat (first | exact (Kd.R_reads' HO471.out).2.2 | (with_reducible refine Kd.C_alloc ?_ _) | (with_reducible refine Kd.C_drewN ?_ _) | (with_reducible refine Kd.C_drew ?_))); (case side2 => exact (Kd.R_reads' HO471.out).2.1); rintro e w93 ⟨v502, rfl, ho0, hb⟩; have n0_ := Aside0.mk (Kd.R_elder' (kr HO_8) (Kd.R_base ho0) hb); have n1_ := Aside0.mk (Kd.R_below (kr HO460) hb); have n2_ := Aside0.mk (Kd.R_below (kr HO464) hb); have n3_ := Aside0.mk (Kd.R_below (kr HO467) hb); have n4_ := Aside0.mk (Kd.R_below (kr HO471) hb); have n5_ := Aside0.mk (Kd.R_below (kr HO478) hb); have n6_ := Aside0.mk (Kd.R_below (kr HO482) hb); have n7_ := Aside0.mk (Kd.R_below (kr HO489) hb); have n8_ := Aside0.mk (Kd.R_below (kr HO493) hb); have n9_ := Aside0.mk (Kd.R_below (kr HO496) hb); have n10_ := Aside0.mk (Kd.R_elder' (kr HO500) (Kd.R_base ho0) hb); have n11_ := Aside0.mk (Kd.R_lower (Kd.R_new' (Kd.R_new' ho0 (Kd.R_lt (kr HO_8))) (Kd.R_lt (kr HO500))) (below_size bw)); have n12_ := Aside0.mk (below_step bw hb); clear HO_8; clear HO460; clear HO464; clear HO467; clear HO471; clear HO478; clear HO482; clear HO489; clear HO493; clear HO496; clear HO500; clear HB; have HO_8 := n0_; have HO460 := n1_; have HO464 := n2_; have HO467 := n3_; have HO471 := n4_; have HO478 := n5_; have HO482 := n6_; have HO489 := n7_; have HO493 := n8_; have HO496 := n9_; have HO500 := n10_; have HO503 := n11_; have HB := n12_; clear n0_ n1_ n2_ n3_ n4_ n5_ n6_ n7_ n8_ n9_ n10_ n11_ n12_; (try clear hb); (try clear hb2); (try clear hk); (try clear hi); (try clear ho0); obtain ⟨Ao94, co94, eo94⟩ := Kd.R_slice HO500.out; subst eo94; obtain ⟨Ao95, co95, eo95⟩ := Kd.R_slice HO503.out; subst eo95) | (go_at_call 14; (with_reducible refine (comptrollerref09_Same.calls kj25 _ _ t498 _ _ t501 true _ ?side1 ?side2 ?side3 ?side4 A65.out).mono ?_); (case side1 => repeat (first | exact (Kd.R_reads' HO500.out).2.2 | (with_reducible refine Kd.C_alloc ?_ _) | (with_reducible refine Kd.C_drewN ?_ _) | (with_reducible refine Kd.C_drew ?_))); (case side2 => exact (Kd.R_reads' HO500.out).2.1); (case side3 => repeat (first | exact (Kd.R_reads' HO503.out).2.2 | (with_reducible refine Kd.C_alloc ?_ _) | (with_reducible refine Kd.C_drewN ?_ _) | (with_reducible refine Kd.C_drew ?_))); (case side4 => exact (Kd.R_reads' HO503.out).2.1); rintro e w' ⟨rfl, ⟨nd, rfl⟩⟩) | (go_at_call 15; (with_reducible refine (comptrollerlaw09_Ours.calls kj25 _ _ t461 t505 _ ?side1 ?side2 A67.out).mono ?_); (case side1 => repeat (first | exact (Kd.R_reads' HO464.out).2.2 | (with_reducible refine Kd.C_alloc ?_ _) | (with_reducible refine Kd.C_drewN ?_ _) | (with_reducible refine Kd.C_drew ?_))); (case side2 => exact (Kd.R_reads' HO464.out).2.1); rintro e w96 ⟨v506, rfl, ho0, hb⟩; have n0_ := Aside0.mk (Kd.R_elder' (kr HO_8) (Kd.R_base ho0) hb); have n1_ := Aside0.mk (Kd.R_below (kr HO460) hb); have n2_ := Aside0.mk (Kd.R_below (kr HO464) hb); have n3_ := Aside0.mk (Kd.R_below (kr HO467) hb); have n4_ := Aside0.mk (Kd.R_below (kr HO471) hb); have n5_ := Aside0.mk (Kd.R_below (kr HO478) hb); have n6_ := Aside0.mk (Kd.R_below (kr HO482) hb); have n7_ := Aside0.mk (Kd.R_below (kr HO489) hb); have n8_ := Aside0.mk (Kd.R_below (kr HO493) hb); have n9_ := Aside0.mk (Kd.R_below (kr HO496) hb); have n10_ := Aside0.mk (Kd.R_elder' (kr HO500) (Kd.R_base ho0) hb); have n11_ := Aside0.mk (Kd.R_elder' (kr HO503) (Kd.R_base ho0) hb); have n12_ := Aside0.mk (Kd.R_lower (Kd.R_new' (Kd.R_new' (Kd.R_new' ho0 (Kd.R_lt (kr HO_8))) (Kd.R_lt (kr HO500))) (Kd.R_lt (kr HO503))) (below_size bw)); have n13_ := Aside0.mk (below_step bw hb); clear HO_8; clear HO460; clear HO464; clear HO467; clear HO471; clear HO478; clear HO482; clear HO489; clear HO493; clear HO496; clear HO500; clear HO503; clear HB; have HO_8 := n0_; have HO460 := n1_; have HO464 := n2_; have HO467 := n3_; have HO471 := n4_; have HO478 := n5_; have HO482 := n6_; have HO489 := n7_; have HO493 := n8_; have HO496 := n9_; have HO500 := n10_; have HO503 := n11_; have HO507 := n12_; have HB := n13_; clear n0_ n1_ n2_ n3_ n4_ n5_ n6_ n7_ n8_ n9_ n10_ n11_ n12_ n13_; (try clear hb); (try clear hb2); (try clear hk); (try clear hi); (try clear ho0); obtain ⟨Ao97, co97, eo97⟩ := Kd.R_slice HO496.out; subst eo97) | (go_at_call 15; (with_reducible refine (comptrollerlaw09_Ours.calls kj25 _ _ t494 t508 _ ?side1 ?side2 A68.out).mono ?_); (case side1 => repeat (first | exact (Kd.R_reads' HO496.out).2.2 | (with_reducible refine Kd.C_alloc ?_ _) | (with_reducible refine Kd.C_drewN ?_ _) | (with_reducible refine Kd.C_drew ?_))); (case side2 => exact (Kd.R_reads' HO496.out).2.1); rintro e w98 ⟨v509, rfl, ho0, hb⟩; have n0_ := Aside0.mk (Kd.R_elder' (kr HO_8) (Kd.R_base ho0) hb); have n1_ := Aside0.mk (Kd.R_below (kr HO460) hb); have n2_ := Aside0.mk (Kd.R_below (kr HO464) hb); have n3_ := Aside0.mk (Kd.R_below (kr HO467) hb); have n4_ := Aside0.mk (Kd.R_below (kr HO471) hb); have n5_ := Aside0.mk (Kd.R_below (kr HO478) hb); have n6_ := Aside0.mk (Kd.R_below (kr HO482) hb); have n7_ := Aside0.mk (Kd.R_below (kr HO489) hb); have n8_ := Aside0.mk (Kd.R_below (kr HO493) hb); have n9_ := Aside0.mk (Kd.R_below (kr HO496) hb); have n10_ := Aside0.mk (Kd.R_elder' (kr HO500) (Kd.R_base ho0) hb); have n11_ := Aside0.mk (Kd.R_elder' (kr HO503) (Kd.R_base ho0) hb); have n12_ := Aside0.mk (Kd.R_elder' (kr HO507) (Kd.R_base ho0) hb); have n13_ := Aside0.mk (Kd.R_lower (Kd.R_new' (Kd.R_new' (Kd.R_new' (Kd.R_new' ho0 (Kd.R_lt (kr HO_8))) (Kd.R_lt (kr HO500))) (Kd.R_lt (kr HO503))) (Kd.R_lt (kr HO507))) (below_size bw)); have n14_ := Aside0.mk (below_step bw hb); clear HO_8; clear HO460; clear HO464; clear HO467; clear HO471; clear HO478; clear HO482; clear HO489; clear HO493; clear HO496; clear HO500; clear HO503; clear HO507; clear HB; have HO_8 := n0_; have HO460 := n1_; have HO464 := n2_; have HO467 := n3_; have HO471 := n4_; have HO478 := n5_; have HO482 := n6_; have HO489 := n7_; have HO493 := n8_; have HO496 := n9_; have HO500 := n10_; have HO503 := n11_; have HO507 := n12_; have HO510 := n13_; have HB := n14_; clear n0_ n1_ n2_ n3_ n4_ n5_ n6_ n7_ n8_ n9_ n10_ n11_ n12_ n13_ n14_; (try clear hb); (try clear hb2); (try clear hk); (try clear hi); (try clear ho0); obtain ⟨Ao99, co99, eo99⟩ := Kd.R_slice HO507.out; subst eo99; obtain ⟨Ao100, co100, eo100⟩ := Kd.R_slice HO510.out; subst eo100) | (go_at_call 14; (with_reducible refine (comptrollerref09_Same.calls kj25 _ _ t505 _ _ t508 true _ ?side1 ?side2 ?side3 ?side4 A69.out).mono ?_); (case side1 => repeat (first | exact (Kd.R_reads' HO507.out).2.2 | (with_reducible refine Kd.C_alloc ?_ _) | (with_reducible refine Kd.C_drewN ?_ _) | (with_reducible refine Kd.C_drew ?_))); (case side2 => exact (Kd.R_reads' HO507.out).2.1); (case side3 => repeat (first | exact (Kd.R_reads' HO510.out).2.2 | (with_reducible refine Kd.C_alloc ?_ _) | (with_reducible refine Kd.C_drewN ?_ _) | (with_reducible refine Kd.C_drew ?_))); (case side4 => exact (Kd.R_reads' HO510.out).2.1); rintro e w' ⟨rfl, ⟨nd, rfl⟩⟩) | (go_at_call 22; (with_reducible refine (fact_Right.calls kj25 _ _ t461 t512 _ ?side1 ?side2 A71.out).mono ?_); (case side1 => repeat (first | exact (Kd.R_reads' HO464.out).2.2 | (with_reducible refine Kd.C_alloc ?_ _) | (with_reducible refine Kd.C_drewN ?_ _) | (with_reducible refine Kd.C_drew ?_))); (case side2 => exact (Kd.R_reads' HO464.out).2.1); rintro e w101 ⟨rfl, hb⟩; have n0_ := Aside0.mk (Kd.R_below (kr HO_8) hb); have n1_ := Aside0.mk (Kd.R_below (kr HO460) hb); have n2_ := Aside0.mk (Kd.R_below (kr HO464) hb); have n3_ := Aside0.mk (Kd.R_below (kr HO467) hb); have n4_ := Aside0.mk (Kd.R_below (kr HO471) hb); have n5_ := Aside0.mk (Kd.R_below (kr HO478) hb); have n6_ := Aside0.mk (Kd.R_below (kr HO482) hb); have n7_ := Aside0.mk (Kd.R_below (kr HO489) hb); have n8_ := Aside0.mk (Kd.R_below (kr HO493) hb); have n9_ := Aside0.mk (Kd.R_below (kr HO496) hb); have n10_ := Aside0.mk (Kd.R_below (kr HO500) hb); have n11_ := Aside0.mk (Kd.R_below (kr HO503) hb); have n12_ := Aside0.mk (Kd.R_below (kr HO507) hb); have n13_ := Aside0.mk (Kd.R_below (kr HO510) hb); have n14_ := Aside0.mk (below_step bw hb); clear HO_8; clear HO460; clear HO464; clear HO467; clear HO471; clear HO478; clear HO482; clear HO489; clear HO493; clear HO496; clear HO500; clear HO503; clear HO507; clear HO510; clear HB; have HO_8 := n0_; have HO460 := n1_; have HO464 := n2_; have HO467 := n3_; have HO471 := n4_; have HO478 := n5_; have HO482 := n6_; have HO489 := n7_; have HO493 := n8_; have HO496 := n9_; have HO500 := n10_; have HO503 := n11_; have HO507 := n12_; have HO510 := n13_; have HB := n14_; clear n0_ n1_ n2_ n3_ n4_ n5_ n6_ n7_ n8_ n9_ n10_ n11_ n12_ n13_ n14_; (try clear hb); (try clear hb2); (try clear hk); (try clear hi)))
                     go_ret
                     exact ⟨by first | rfl | (simp [errW_none, errW_some] <;> rfl) | (simp only [← hji19]; first | rfl | (simp [errW_none, errW_some] <;> rfl)) | (simp [*, errW_none, errW_some] <;> rfl), bw⟩
                    ·replace c70 := Bool.eq_false_iff.mpr c70
                     subst c70
                     have H1 : (none) = some r := by rw [if_neg (show ¬ (false = true) by decide)] at H; exact H
                     clear H
                     have H := H1
                     clear H1
                     exact absurd H (by simp)
                   ·replace c66 := Bool.eq_false_iff.mpr c66
                    subst c66
                    have H1 : (none) = some r := by rw [if_neg (show ¬ (false = true) by decide)] at H; exact H
                    clear H
                    have H := H1
                    clear H1
                    exact absurd H (by simp)
                  ·rw [if_neg c62] at H
                   exact absurd H (by simp)
                 ·rw [if_neg c61] at H
                  exact absurd H (by simp)
                ·rw [if_neg c60] at H
                 exact absurd H (by simp)
               ·rw [if_neg c59] at H
                exact absurd H (by simp)
              ·rw [if_neg c58] at H
               exact absurd H (by simp)
             ·rw [if_neg c50] at H
              exact absurd H (by simp)
            ·rw [if_neg c49] at H
             exact absurd H (by simp)
         ·rw [if_neg c25] at H
          exact absurd H (by simp)
        ·rw [if_neg c22] at H
         exact absurd H (by simp)
       ·rw [if_neg c21] at H
        exact absurd H (by simp)
      ·rw [if_neg c20] at H
       exact absurd H (by simp)
 ·replace c5 := Bool.eq_false_iff.mpr c5
  subst c5
  have H1 : (some false) = some r := by rw [if_neg (show ¬ (false = true) by decide)] at H; exact H
  clear H
  have H := H1
  clear H1
  obtain rfl := Option.some.inj H
  go_enter Try.func4, Try.ntmps4
  go_wp2_with (first | ((with_reducible refine gate_callee (f := 6) rfl ?_); refine goesL_ (some 20) rfl rfl Try.func6 (by kernel_rfl) rfl #[] rfl mp_ ?_; (with_reducible refine (comptrollerlaw09_alive.calls k  false _ A4.out).mono ?_); rintro e w102 ⟨rfl, hb⟩; refine ⟨_, rfl, ?_⟩; have n0_ := Aside0.mk (below_step bw hb); clear HB; have HB := n0_; clear n0_; (try clear hb); (try clear hb2); (try clear hk); (try clear hi)))
  go_ret
  exact ⟨re_, bw⟩

end Go.Proofs.Ytdckeflggcefbaa.Y
