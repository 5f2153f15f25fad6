/- Plain Lean functions with the answers of the program's functions, and proofs that the machine's calls come to them; lines written by a program for this claim. The reference's cube: its keys rise, each once; each key's sum, or the first error. Plain Lean. Sums, picks and amounts of a cube: the reference's answers and the program's are one. Plain Lean. No conditions. -/
import Derived.Test.YtdckeflggcefbaaG1
import Derived.Test.YtdckeflggcefbaaG10
import Derived.Test.YtdckeflggcefbaaG8
import Derived.Test.YtdckeflggcefbaaG9
namespace Go.Proofs.Ytdckeflggcefbaa.Y
open Go.RowKit Go.Proofs.YtdckeflggcefbaaW.PrintWords Go.Proofs.YtdckeflggcefbaaW.PrintLast Go.Proofs.YtdckeflggcefbaaW.PrintMore
attribute [local go_sem] max2_int min2_int max_two min_two max_three min_three max_four min_four
set_option linter.unusedVariables false
set_option linter.unusedSimpArgs false

attribute [local go_sem high] eqA24
/-! ### comptrollerref09_Of: function 26 -/
mutual
def comptrollerref09_Of.l0 : Nat → List (S28) → List (S24) → List (S28) → Int → Option ((List (S28)) × Int)
 | 0, _, _, _, _ => none
 | k + 1, x0, x4, x5, x6 => if x6 < (x4.length : Int) then (comptrollerref09_Of.l1 k x0 x4 x5 x6 ([] : List Int) 0) else (if (x5.length : Int) > 2000 then (some (([] : List (S28)), 4)) else (some (x5, 0)))
def comptrollerref09_Of.l1 : Nat → List (S28) → List (S24) → List (S28) → Int → List Int → Int → Option ((List (S28)) × Int)
 | 0, _, _, _, _, _, _ => none
 | k + 1, x0, x4, x5, x6, x7, x8 => if x8 < (x0.length : Int) then (if 0 ≤ x8 then (if 0 ≤ x6 then (if x6 < (x4.length : Int) then (if ((((rd_T28 x0 x8).f0.f0).toList) == (((rd_T24 x4 x6).f0).toList) && ((((rd_T28 x0 x8).f0.f1).toList) == (((rd_T24 x4 x6).f1).toList) && ((((rd_T28 x0 x8).f0.f2).toList) == (((rd_T24 x4 x6).f2).toList) && ((((rd_T28 x0 x8).f0.f3).toList) == (((rd_T24 x4 x6).f3).toList) && (((rd_T28 x0 x8).f0.f4) == ((rd_T24 x4 x6).f4)))))) = true then (if x7.length < 17592186044416 then (comptrollerref09_Of.l1 k x0 x4 x5 x6 (x7 ++ [(rd_T28 x0 x8).f1]) (wrap64 (x8 + 1))) else (none)) else (comptrollerref09_Of.l1 k x0 x4 x5 x6 x7 (wrap64 (x8 + 1)))) else (none)) else (none)) else (none)) else ((comptrollerref01_Sum.f k x7).bind fun bt299 => (if bt299.2 = 0 then (if bt299.1 = 0 then (comptrollerref09_Of.l0 k x0 x4 x5 (wrap64 (x6 + 1))) else (if 0 ≤ x6 then (if x6 < (x4.length : Int) then (if x5.length < 1759218604441 then (comptrollerref09_Of.l0 k x0 x4 (x5 ++ [(⟨(⟨(rd_T24 x4 x6).f0, (rd_T24 x4 x6).f1, (rd_T24 x4 x6).f2, (rd_T24 x4 x6).f3, (rd_T24 x4 x6).f4⟩ : S24), bt299.1⟩ : S28)]) (wrap64 (x6 + 1))) else (none)) else (none)) else (none))) else (some (([] : List (S28)), bt299.2))))
end
def comptrollerref09_Of.f (k : Nat) (l0 : List (S28)) : Option ((List (S28)) × Int) := (comptrollerref09_keys.f k l0).bind fun t290 => (comptrollerref09_Of.l0 k l0 t290 ([] : List (S28)) 0)
theorem comptrollerref09_Of.mono_l : ∀ k, (∀ y0 y1 y2 y3, LeO (comptrollerref09_Of.l0 k y0 y1 y2 y3) (comptrollerref09_Of.l0 (k + 1) y0 y1 y2 y3)) ∧ (∀ y0 y1 y2 y3 y4 y5, LeO (comptrollerref09_Of.l1 k y0 y1 y2 y3 y4 y5) (comptrollerref09_Of.l1 (k + 1) y0 y1 y2 y3 y4 y5))
 | 0 => ⟨fun _ _ _ _ r h => by simp [comptrollerref09_Of.l0] at h, fun _ _ _ _ _ _ r h => by simp [comptrollerref09_Of.l1] at h⟩
 | k + 1 => by
  obtain ⟨ih0, ih1⟩ := comptrollerref09_Of.mono_l k
  refine ⟨?_, ?_⟩
  ·intro y0 y1 y2 y3
   unfold comptrollerref09_Of.l0
   with_reducible repeat' first | apply ih0 | apply ih1 | apply comptrollerref01_Sum.mono | apply comptrollerref09_keys.mono | refine LeO.refl _ | refine LeO.none _ | refine LeO.ite ?_ ?_ | refine LeO.bind ?_ (fun _ => ?_)
  ·intro y0 y1 y2 y3 y4 y5
   unfold comptrollerref09_Of.l1
   with_reducible repeat' first | apply ih0 | apply ih1 | apply comptrollerref01_Sum.mono | apply comptrollerref09_keys.mono | refine LeO.refl _ | refine LeO.none _ | refine LeO.ite ?_ ?_ | refine LeO.bind ?_ (fun _ => ?_)
theorem comptrollerref09_Of.mono : ∀ a0 k, LeO (comptrollerref09_Of.f k a0) (comptrollerref09_Of.f (k + 1) a0) := by
 intro a0 k
 obtain ⟨ih0, ih1⟩ := comptrollerref09_Of.mono_l k
 unfold comptrollerref09_Of.f
 with_reducible repeat' first | apply ih0 | apply ih1 | apply comptrollerref01_Sum.mono | apply comptrollerref09_keys.mono | refine LeO.refl _ | refine LeO.none _ | refine LeO.ite ?_ ?_ | refine LeO.bind ?_ (fun _ => ?_)
set_option maxHeartbeats 8000000 in
set_option maxRecDepth 100000 in
theorem comptrollerref09_Of.calls (k : Nat) (A0 : Option Addr) (c0 : Nat) (l0 : List (S28)) (r1 : List (S28)) (r2 : Int) (w : World) (hr0 : Kd.C k28 w A0 l0.length l0) (hc0 : l0.length ≤ c0) (h : comptrollerref09_Of.f k l0 = some (r1, r2)) :
  Calls Try.prog 26 #[.slice A0 l0.length c0] w fun e w' => ∃ v0_ : Value, e = .returned (.tuple #[v0_, .int .i64 r2]) ∧ Kd.R k28 28 w' w.heap.size (fun _ => True) v0_ r1 ∧ Below w.heap.size w w' := by
 have hu24 := Try.underlying24; have hu28 := Try.underlying28; have HR0 := Aside0.mk hr0; have HC0 := Aside0.mk hc0; clear hr0 hc0
 have HB := Aside0.mk (Below.refl w.heap.size w)
 have H : ((comptrollerref09_keys.f k l0).bind fun t290 => (comptrollerref09_Of.l0 k l0 t290 ([] : List (S28)) 0)) = some (r1, r2) := h
 clear h
 replace H := Option.bind_eq_some_iff.mp H
 obtain ⟨t290, A20, H⟩ := H
 replace H : (comptrollerref09_Of.l0 k l0 t290 ([] : List (S28)) 0) = some (r1, r2) := H
 have A2 := Aside0.mk A20; clear A20
 have H' := Aside0.mk H
 clear H
 go_enter Try.func26, Try.ntmps26
 go_wp2_with (first | (go_at_call 41; (with_reducible refine (comptrollerref09_keys.calls k _ _ l0 t290 _ ?side1 ?side2 A2.out).mono ?_); (case side1 => repeat (first | exact HR0.out | (with_reducible refine Kd.C_alloc ?_ _) | (with_reducible refine Kd.C_drewN ?_ _) | (with_reducible refine Kd.C_drew ?_))); (case side2 => exact HC0.out); rintro e w3 ⟨v291, rfl, ho0, hb⟩; have n0_ := Aside0.mk (Kd.R_lower ho0 (below_size bw)); have n1_ := Aside0.mk (below_step bw hb); clear HB; have HO292 := n0_; have HB := n1_; clear n0_ n1_; (try clear hb); (try clear hb2); (try clear hk); (try clear hi); (try clear ho0)))
 repeat (go_quiet (first | (go_at_call 41; (with_reducible refine (comptrollerref09_keys.calls k _ _ l0 t290 _ ?side1 ?side2 A2.out).mono ?_); (case side1 => repeat (first | exact HR0.out | (with_reducible refine Kd.C_alloc ?_ _) | (with_reducible refine Kd.C_drewN ?_ _) | (with_reducible refine Kd.C_drew ?_))); (case side2 => exact HC0.out); rintro e w3 ⟨v291, rfl, ho0, hb⟩; have n0_ := Aside0.mk (Kd.R_lower ho0 (below_size bw)); have n1_ := Aside0.mk (below_step bw hb); clear HB; have HO292 := n0_; have HB := n1_; clear n0_ n1_; (try clear hb); (try clear hb2); (try clear hk); (try clear hi); (try clear ho0))); try go_wp2_with (first | (go_at_call 41; (with_reducible refine (comptrollerref09_keys.calls k _ _ l0 t290 _ ?side1 ?side2 A2.out).mono ?_); (case side1 => repeat (first | exact HR0.out | (with_reducible refine Kd.C_alloc ?_ _) | (with_reducible refine Kd.C_drewN ?_ _) | (with_reducible refine Kd.C_drew ?_))); (case side2 => exact HC0.out); rintro e w3 ⟨v291, rfl, ho0, hb⟩; have n0_ := Aside0.mk (Kd.R_lower ho0 (below_size bw)); have n1_ := Aside0.mk (below_step bw hb); clear HB; have HO292 := n0_; have HB := n1_; clear n0_ n1_; (try clear hb); (try clear hb2); (try clear hk); (try clear hi); (try clear ho0))))
 go_loopg [5, 6] k (fun kq v5 v6 w' => ∃ (x5_1 : List (S28)) (x6_1 : Int), v6 = .int .i64 x6_1 ∧ Aside0 (comptrollerref09_Of.l0 kq l0 t290 x5_1 x6_1 = some (r1, r2)) ∧ Aside0 (kq ≤ k) ∧ Aside0 (Kd.R k24 24 w' w.heap.size (fun _ => True) v291 t290) ∧ Aside0 (Kd.R k28 28 w' w.heap.size (fun _ => True) v5 x5_1) ∧ Aside0 (Below w.heap.size w w'))
 case atStart => exact ⟨(([] : List (S28))), (0), rs_, H', ⟨Nat.le_refl _⟩, ⟨kr HO292⟩, ⟨by first | exact Kd.R_nil _ _ _ _ _ | exact Kd.N_nil _ _ _ _ _ | exact Kd.V_nil _ _ _ _ _ | exact Kd.Q_nil _ _ _ _ _ | exact Kd.S_nil _ _ _ _ _⟩, ⟨bw⟩⟩
 case round =>
  clear H'
  (try clear c2); (try clear p2)
  obtain ⟨x5_1, x6_1, rfl, HA, HK1, HO_4, HO_5, HB⟩ := hrel
  cases gk with
  | zero => exact absurd HA.out (by simp [comptrollerref09_Of.l0])
  | succ k1 =>
   have H := HA.out; clear HA
   simp only [comptrollerref09_Of.l0] at H
   by_cases c4 : x6_1 < (t290.length : Int)
   ·rw [if_pos c4] at H
    have c4b0 : decide (x6_1 < (t290.length : Int)) = true := decide_eq_true c4
    clear c4
    have H' := Aside0.mk H
    clear H
    obtain ⟨Ao5, co5, eo5⟩ := Kd.R_slice HO_4.out
    subst eo5; go_wp2
    repeat (go_quiet (fail); try go_wp2)
    go_loopg [7, 8] k1 (fun kq v7 v8 w' => ∃ (x7_2 : List Int) (x8_2 : Int), v8 = .int .i64 x8_2 ∧ Aside0 (comptrollerref09_Of.l1 kq l0 t290 x5_1 x6_1 x7_2 x8_2 = some (r1, r2)) ∧ Aside0 (kq ≤ k1) ∧ Aside0 (Kd.R k24 24 w' w.heap.size (fun _ => True) (.slice Ao5 t290.length co5) t290) ∧ Aside0 (Kd.R k28 28 w' w.heap.size (fun _ => True) u5 x5_1) ∧ Aside0 (Kd.R (Kd.int .i64) 2 w' w.heap.size (fun _ => True) v7 x7_2) ∧ Aside0 (Below w.heap.size w w'))
    case atStart => exact ⟨(([] : List Int)), (0), rs_, H', ⟨Nat.le_refl _⟩, ⟨kr HO_4⟩, ⟨kr HO_5⟩, ⟨by first | exact Kd.R_nil _ _ _ _ _ | exact Kd.N_nil _ _ _ _ _ | exact Kd.V_nil _ _ _ _ _ | exact Kd.Q_nil _ _ _ _ _ | exact Kd.S_nil _ _ _ _ _⟩, ⟨bw⟩⟩
    case round =>
     clear H'
     (try clear c2); (try clear p2); (try clear c4); (try clear c4b0); (try clear p2)
     obtain ⟨x7_2, x8_2, rfl, HA, HK2, HO_4, HO_5, HO_7, HB⟩ := hrel
     cases gk with
     | zero => exact absurd HA.out (by simp [comptrollerref09_Of.l1])
     | succ k2 =>
      have H := HA.out; clear HA
      simp only [comptrollerref09_Of.l1] at H
      by_cases c6 : x8_2 < (l0.length : Int)
      ·rw [if_pos c6] at H
       have c6b0 : decide (x8_2 < (l0.length : Int)) = true := decide_eq_true c6
       clear c6
       by_cases c7 : 0 ≤ x8_2
       ·rw [if_pos c7] at H
        have c7b0 : decide (0 ≤ x8_2) = true := decide_eq_true c7
        clear c7
        by_cases c8 : 0 ≤ x6_1
        ·rw [if_pos c8] at H
         have c8b0 : decide (0 ≤ x6_1) = true := decide_eq_true c8
         clear c8
         by_cases c9 : x6_1 < (t290.length : Int)
         ·rw [if_pos c9] at H
          have c9b0 : decide (x6_1 < (t290.length : Int)) = true := decide_eq_true c9
          clear c9
          by_cases c10 : ((((rd_T28 l0 x8_2).f0.f0).toList) == (((rd_T24 t290 x6_1).f0).toList) && ((((rd_T28 l0 x8_2).f0.f1).toList) == (((rd_T24 t290 x6_1).f1).toList) && ((((rd_T28 l0 x8_2).f0.f2).toList) == (((rd_T24 t290 x6_1).f2).toList) && ((((rd_T28 l0 x8_2).f0.f3).toList) == (((rd_T24 t290 x6_1).f3).toList) && (((rd_T28 l0 x8_2).f0.f4) == ((rd_T24 t290 x6_1).f4)))))) = true
          ·rw [if_pos c10] at H
           have c10b0 : ((((rd_T28 l0 x8_2).f0.f0).toList) == (((rd_T24 t290 x6_1).f0).toList) && ((((rd_T28 l0 x8_2).f0.f1).toList) == (((rd_T24 t290 x6_1).f1).toList) && ((((rd_T28 l0 x8_2).f0.f2).toList) == (((rd_T24 t290 x6_1).f2).toList) && ((((rd_T28 l0 x8_2).f0.f3).toList) == (((rd_T24 t290 x6_1).f3).toList) && (((rd_T28 l0 x8_2).f0.f4) == ((rd_T24 t290 x6_1).f4)))))) = true := c10
           (try (have c10b1 : decide ((((rd_T28 l0 x8_2).f0.f0).toList) = (((rd_T24 t290 x6_1).f0).toList) && ((((rd_T28 l0 x8_2).f0.f1).toList) == (((rd_T24 t290 x6_1).f1).toList) && ((((rd_T28 l0 x8_2).f0.f2).toList) == (((rd_T24 t290 x6_1).f2).toList) && ((((rd_T28 l0 x8_2).f0.f3).toList) == (((rd_T24 t290 x6_1).f3).toList) && (((rd_T28 l0 x8_2).f0.f4) == ((rd_T24 t290 x6_1).f4)))))) = true := by simpa using c10))
           (try (have c10b2 : ((((rd_T28 l0 x8_2).f0.f0).toList) == (((rd_T24 t290 x6_1).f0).toList) && ((((rd_T28 l0 x8_2).f0.f1).toList) == (((rd_T24 t290 x6_1).f1).toList) && ((((rd_T28 l0 x8_2).f0.f2).toList) == (((rd_T24 t290 x6_1).f2).toList) && ((((rd_T28 l0 x8_2).f0.f3).toList) == (((rd_T24 t290 x6_1).f3).toList) && (((rd_T28 l0 x8_2).f0.f4) == ((rd_T24 t290 x6_1).f4)))))) = true := by simpa using c10))
           clear c10
           by_cases c11 : x7_2.length < 17592186044416
           ·rw [if_pos c11] at H; have LMc11 := Aside0.mk c11; clear c11
            obtain ⟨y296, hy296⟩ : ∃ y_ : List Int, y_ = (x7_2 ++ [(rd_T28 l0 x8_2).f1]) := ⟨_, rfl⟩
            replace H : (comptrollerref09_Of.l1 k2 l0 t290 x5_1 x6_1 y296 (wrap64 (x8_2 + 1))) = some (r1, r2) := rh hy296 H
            have Ny296 := Aside0.mk hy296; clear hy296
            have H' := Aside0.mk H
            clear H
            have p293 : 0 ≤ (x8_2 : Int) := of_decide_eq_true as_
            have q293 : x8_2 < (l0.length : Int) := of_decide_eq_true as_
            obtain ⟨ad293, e293, hx293_0, hx293_1, hx293_2, hx293_3, hx293_4, hx293_5⟩ := at_T28 HR0.out x8_2 p293 q293
            cases e293; replace hx293_0 := cb HB hx293_0; replace hx293_1 := cb HB hx293_1; replace hx293_2 := cb HB hx293_2; replace hx293_3 := cb HB hx293_3; replace hx293_4 := cb HB hx293_4; replace hx293_5 := cb HB hx293_5; replace p293 := eq_true p293; replace q293 := eq_true q293
            have p294 : 0 ≤ (x6_1 : Int) := of_decide_eq_true as_
            have q294 : x6_1 < (t290.length : Int) := of_decide_eq_true as_
            obtain ⟨ad294, e294, hx294_0, hx294_1, hx294_2, hx294_3, hx294_4⟩ := at_T24 (Kd.R_reads' HO_4.out).2.2 x6_1 p294 q294
            cases e294; replace p294 := eq_true p294; replace q294 := eq_true q294
            have p295 : 0 ≤ (x8_2 : Int) := of_decide_eq_true as_
            have q295 : x8_2 < (l0.length : Int) := of_decide_eq_true as_
            obtain ⟨ad295, e295, hx295_0, hx295_1, hx295_2, hx295_3, hx295_4, hx295_5⟩ := at_T28 HR0.out x8_2 p295 q295
            obtain rfl : ad293 = ad295 := (by injection e295)
            replace hx295_0 := cb HB hx295_0; replace hx295_1 := cb HB hx295_1; replace hx295_2 := cb HB hx295_2; replace hx295_3 := cb HB hx295_3; replace hx295_4 := cb HB hx295_4; replace hx295_5 := cb HB hx295_5; replace p295 := eq_true p295; replace q295 := eq_true q295
            go_wp2_with (first | ((with_reducible refine gate_builtin (b := .append) (xs := #[.tmp 35, .tmp 41]) rfl ?_); at_builtin; refine Kd.R_append (Kd.int .i64) (w0 := w) w.heap.size rfl (.tmp 35) (.tmp 41) 62 2 (.int .i64 0) 8 rfl Try.underlying62 info2 rfl (by decide) (by omega) u7 x7_2 ((rd_T28 l0 x8_2).f1) [.int .i64 ((rd_T28 l0 x8_2).f1)] (fun _ => True) (fun _ => False) rfl rfl ?aP (fun _ hk => hk.elim) ?aF ?aO ?aB ?aS ?aL ?_; (case aP => exact rfl); (case aB => exact bw); (case aF => exact (fun _ _ => trivial)); (case aO => exact (kr HO_7)); (case aS => exact (below_size bw)); (case aL => have := LMc11.out; omega); intro v297 w12 ho hb hg hat; rw [← Ny296.out] at ho; have n0_ := Aside0.mk (Kd.R_over' (kr HO_4) (Kd.R_typed (kr HO_7)) (by decide) hg); have n1_ := Aside0.mk (Kd.R_over' (kr HO_5) (Kd.R_typed (kr HO_7)) (by decide) hg); have n2_ := Aside0.mk (hb); have n3_ := Aside0.mk (ho); clear HO_4; clear HO_5; clear HB; clear HO_7; have HO_4 := n0_; have HO_5 := n1_; have HB := n2_; have HO298 := n3_; clear n0_ n1_ n2_ n3_; clear ho hb hg hat))
            repeat (go_quiet (first | ((with_reducible refine gate_builtin (b := .append) (xs := #[.tmp 35, .tmp 41]) rfl ?_); at_builtin; refine Kd.R_append (Kd.int .i64) (w0 := w) w.heap.size rfl (.tmp 35) (.tmp 41) 62 2 (.int .i64 0) 8 rfl Try.underlying62 info2 rfl (by decide) (by omega) u7 x7_2 ((rd_T28 l0 x8_2).f1) [.int .i64 ((rd_T28 l0 x8_2).f1)] (fun _ => True) (fun _ => False) rfl rfl ?aP (fun _ hk => hk.elim) ?aF ?aO ?aB ?aS ?aL ?_; (case aP => exact rfl); (case aB => exact bw); (case aF => exact (fun _ _ => trivial)); (case aO => exact (kr HO_7)); (case aS => exact (below_size bw)); (case aL => have := LMc11.out; omega); intro v297 w12 ho hb hg hat; rw [← Ny296.out] at ho; have n0_ := Aside0.mk (Kd.R_over' (kr HO_4) (Kd.R_typed (kr HO_7)) (by decide) hg); have n1_ := Aside0.mk (Kd.R_over' (kr HO_5) (Kd.R_typed (kr HO_7)) (by decide) hg); have n2_ := Aside0.mk (hb); have n3_ := Aside0.mk (ho); clear HO_4; clear HO_5; clear HB; clear HO_7; have HO_4 := n0_; have HO_5 := n1_; have HB := n2_; have HO298 := n3_; clear n0_ n1_ n2_ n3_; clear ho hb hg hat)); try go_wp2_with (first | ((with_reducible refine gate_builtin (b := .append) (xs := #[.tmp 35, .tmp 41]) rfl ?_); at_builtin; refine Kd.R_append (Kd.int .i64) (w0 := w) w.heap.size rfl (.tmp 35) (.tmp 41) 62 2 (.int .i64 0) 8 rfl Try.underlying62 info2 rfl (by decide) (by omega) u7 x7_2 ((rd_T28 l0 x8_2).f1) [.int .i64 ((rd_T28 l0 x8_2).f1)] (fun _ => True) (fun _ => False) rfl rfl ?aP (fun _ hk => hk.elim) ?aF ?aO ?aB ?aS ?aL ?_; (case aP => exact rfl); (case aB => exact bw); (case aF => exact (fun _ _ => trivial)); (case aO => exact (kr HO_7)); (case aS => exact (below_size bw)); (case aL => have := LMc11.out; omega); intro v297 w12 ho hb hg hat; rw [← Ny296.out] at ho; have n0_ := Aside0.mk (Kd.R_over' (kr HO_4) (Kd.R_typed (kr HO_7)) (by decide) hg); have n1_ := Aside0.mk (Kd.R_over' (kr HO_5) (Kd.R_typed (kr HO_7)) (by decide) hg); have n2_ := Aside0.mk (hb); have n3_ := Aside0.mk (ho); clear HO_4; clear HO_5; clear HB; clear HO_7; have HO_4 := n0_; have HO_5 := n1_; have HB := n2_; have HO298 := n3_; clear n0_ n1_ n2_ n3_; clear ho hb hg hat)))
            go_roundg k2
            case measure => have := HK1.out; have := HK2.out; omega
            case rel => exact ⟨(y296), (wrap64 (x8_2 + 1)), rs_, H', ⟨by have := HK1.out; have := HK2.out; omega⟩, ⟨kr HO_4⟩, ⟨kr HO_5⟩, ⟨kr HO298⟩, ⟨bw⟩⟩
           ·rw [if_neg c11] at H
            exact absurd H (by simp)
          ·rw [if_neg c10] at H
           have c10b0 : ((((rd_T28 l0 x8_2).f0.f0).toList) == (((rd_T24 t290 x6_1).f0).toList) && ((((rd_T28 l0 x8_2).f0.f1).toList) == (((rd_T24 t290 x6_1).f1).toList) && ((((rd_T28 l0 x8_2).f0.f2).toList) == (((rd_T24 t290 x6_1).f2).toList) && ((((rd_T28 l0 x8_2).f0.f3).toList) == (((rd_T24 t290 x6_1).f3).toList) && (((rd_T28 l0 x8_2).f0.f4) == ((rd_T24 t290 x6_1).f4)))))) = false := by simpa using c10
           (try (have c10b1 : decide ((((rd_T28 l0 x8_2).f0.f0).toList) = (((rd_T24 t290 x6_1).f0).toList) && ((((rd_T28 l0 x8_2).f0.f1).toList) == (((rd_T24 t290 x6_1).f1).toList) && ((((rd_T28 l0 x8_2).f0.f2).toList) == (((rd_T24 t290 x6_1).f2).toList) && ((((rd_T28 l0 x8_2).f0.f3).toList) == (((rd_T24 t290 x6_1).f3).toList) && (((rd_T28 l0 x8_2).f0.f4) == ((rd_T24 t290 x6_1).f4)))))) = false := by simpa using c10))
           (try (have c10b2 : ((((rd_T28 l0 x8_2).f0.f0).toList) == (((rd_T24 t290 x6_1).f0).toList) && ((((rd_T28 l0 x8_2).f0.f1).toList) == (((rd_T24 t290 x6_1).f1).toList) && ((((rd_T28 l0 x8_2).f0.f2).toList) == (((rd_T24 t290 x6_1).f2).toList) && ((((rd_T28 l0 x8_2).f0.f3).toList) == (((rd_T24 t290 x6_1).f3).toList) && (((rd_T28 l0 x8_2).f0.f4) == ((rd_T24 t290 x6_1).f4)))))) = false := by simpa using c10))
           (try (have c10b3 : ¬ ((((rd_T28 l0 x8_2).f0.f0).toList) = (((rd_T24 t290 x6_1).f0).toList) && ((((rd_T28 l0 x8_2).f0.f1).toList) == (((rd_T24 t290 x6_1).f1).toList) && ((((rd_T28 l0 x8_2).f0.f2).toList) == (((rd_T24 t290 x6_1).f2).toList) && ((((rd_T28 l0 x8_2).f0.f3).toList) == (((rd_T24 t290 x6_1).f3).toList) && (((rd_T28 l0 x8_2).f0.f4) == ((rd_T24 t290 x6_1).f4)))))) := by simpa using c10))
           clear c10
           have H' := Aside0.mk H
           clear H
           have p293 : 0 ≤ (x8_2 : Int) := of_decide_eq_true as_
           have q293 : x8_2 < (l0.length : Int) := of_decide_eq_true as_
           obtain ⟨ad293, e293, hx293_0, hx293_1, hx293_2, hx293_3, hx293_4, hx293_5⟩ := at_T28 HR0.out x8_2 p293 q293
           cases e293; replace hx293_0 := cb HB hx293_0; replace hx293_1 := cb HB hx293_1; replace hx293_2 := cb HB hx293_2; replace hx293_3 := cb HB hx293_3; replace hx293_4 := cb HB hx293_4; replace hx293_5 := cb HB hx293_5; replace p293 := eq_true p293; replace q293 := eq_true q293
           have p294 : 0 ≤ (x6_1 : Int) := of_decide_eq_true as_
           have q294 : x6_1 < (t290.length : Int) := of_decide_eq_true as_
           obtain ⟨ad294, e294, hx294_0, hx294_1, hx294_2, hx294_3, hx294_4⟩ := at_T24 (Kd.R_reads' HO_4.out).2.2 x6_1 p294 q294
           cases e294; replace p294 := eq_true p294; replace q294 := eq_true q294; go_wp2
           repeat (go_quiet (fail); try go_wp2)
           go_roundg k2
           case measure => have := HK1.out; have := HK2.out; omega
           case rel => exact ⟨(x7_2), (wrap64 (x8_2 + 1)), rs_, H', ⟨by have := HK1.out; have := HK2.out; omega⟩, ⟨kr HO_4⟩, ⟨kr HO_5⟩, ⟨kr HO_7⟩, ⟨bw⟩⟩
         ·rw [if_neg c9] at H
          exact absurd H (by simp)
        ·rw [if_neg c8] at H
         exact absurd H (by simp)
       ·rw [if_neg c7] at H
        exact absurd H (by simp)
      ·rw [if_neg c6] at H
       have c6b0 : decide (x8_2 < (l0.length : Int)) = false := decide_eq_false c6
       clear c6
       replace H := Option.bind_eq_some_iff.mp H
       obtain ⟨⟨t299, t300⟩, A130, H⟩ := H
       replace H : (if t300 = 0 then (if t299 = 0 then (comptrollerref09_Of.l0 k2 l0 t290 x5_1 (wrap64 (x6_1 + 1))) else (if 0 ≤ x6_1 then (if x6_1 < (t290.length : Int) then (if x5_1.length < 1759218604441 then (comptrollerref09_Of.l0 k2 l0 t290 (x5_1 ++ [(⟨(⟨(rd_T24 t290 x6_1).f0, (rd_T24 t290 x6_1).f1, (rd_T24 t290 x6_1).f2, (rd_T24 t290 x6_1).f3, (rd_T24 t290 x6_1).f4⟩ : S24), t299⟩ : S28)]) (wrap64 (x6_1 + 1))) else (none)) else (none)) else (none))) else (some (([] : List (S28)), t300))) = some (r1, r2) := H
       have A13 := Aside0.mk A130; clear A130
       by_cases c14 : t300 = 0
       ·rw [if_pos c14] at H
        have c14b0 : (t300 == 0) = true := beq_iff_eq.mpr c14
        have c14b1 : (t300 != 0) = false := bne_eq_false_iff_eq.mpr c14
        clear c14
        by_cases c15 : t299 = 0
        ·rw [if_pos c15] at H
         have c15b0 : (t299 == 0) = true := beq_iff_eq.mpr c15
         have c15b1 : (t299 != 0) = false := bne_eq_false_iff_eq.mpr c15
         clear c15
         have H' := Aside0.mk H
         clear H
         obtain ⟨Ao16, co16, eo16⟩ := Kd.R_slice HO_7.out
         subst eo16
         go_wp2_with (first | (go_at_call 29; (with_reducible refine (comptrollerref01_Sum.calls k2 _ _ x7_2 t299 t300 _ ?side1 ?side2 A13.out).mono ?_); (case side1 => repeat (first | exact (Kd.R_reads' HO_7.out).2.2 | (with_reducible refine Kd.C_alloc ?_ _) | (with_reducible refine Kd.C_drewN ?_ _) | (with_reducible refine Kd.C_drew ?_))); (case side2 => exact (Kd.R_reads' HO_7.out).2.1); rintro e w' ⟨rfl, ⟨nd, rfl⟩⟩; (try first | exact ⟨rfl, _, World.drewN_drewN _ _ _⟩ | exact ⟨rfl, _, Eq.trans (World.drewN_drewN _ _ _) (congrArg (World.drewN _) (Nat.add_assoc _ _ _))⟩)))
         repeat (go_quiet (first | (go_at_call 29; (with_reducible refine (comptrollerref01_Sum.calls k2 _ _ x7_2 t299 t300 _ ?side1 ?side2 A13.out).mono ?_); (case side1 => repeat (first | exact (Kd.R_reads' HO_7.out).2.2 | (with_reducible refine Kd.C_alloc ?_ _) | (with_reducible refine Kd.C_drewN ?_ _) | (with_reducible refine Kd.C_drew ?_))); (case side2 => exact (Kd.R_reads' HO_7.out).2.1); rintro e w' ⟨rfl, ⟨nd, rfl⟩⟩; (try first | exact ⟨rfl, _, World.drewN_drewN _ _ _⟩ | exact ⟨rfl, _, Eq.trans (World.drewN_drewN _ _ _) (congrArg (World.drewN _) (Nat.add_assoc _ _ _))⟩))); try go_wp2_with (first | (go_at_call 29; (with_reducible refine (comptrollerref01_Sum.calls k2 _ _ x7_2 t299 t300 _ ?side1 ?side2 A13.out).mono ?_); (case side1 => repeat (first | exact (Kd.R_reads' HO_7.out).2.2 | (with_reducible refine Kd.C_alloc ?_ _) | (with_reducible refine Kd.C_drewN ?_ _) | (with_reducible refine Kd.C_drew ?_))); (case side2 => exact (Kd.R_reads' HO_7.out).2.1); rintro e w' ⟨rfl, ⟨nd, rfl⟩⟩; (try first | exact ⟨rfl, _, World.drewN_drewN _ _ _⟩ | exact ⟨rfl, _, Eq.trans (World.drewN_drewN _ _ _) (congrArg (World.drewN _) (Nat.add_assoc _ _ _))⟩))))
         go_roundg k2
         case measure => have := HK1.out; have := HK2.out; omega
         case rel => exact ⟨(x5_1), (wrap64 (x6_1 + 1)), rs_, H', ⟨by have := HK1.out; have := HK2.out; omega⟩, ⟨kr HO_4⟩, ⟨kr HO_5⟩, ⟨bw⟩⟩
        ·rw [if_neg c15] at H
         have c15b0 : (t299 == 0) = false := beq_eq_false_iff_ne.mpr c15
         have c15b1 : (t299 != 0) = true := bne_iff_ne.mpr c15
         by_cases c17 : 0 ≤ x6_1
         ·rw [if_pos c17] at H
          have c17b0 : decide (0 ≤ x6_1) = true := decide_eq_true c17
          clear c17
          by_cases c18 : x6_1 < (t290.length : Int)
          ·rw [if_pos c18] at H
           have c18b0 : decide (x6_1 < (t290.length : Int)) = true := decide_eq_true c18
           clear c18
           by_cases c19 : x5_1.length < 1759218604441
           ·rw [if_pos c19] at H; have LMc19 := Aside0.mk c19; clear c19
            obtain ⟨y302, hy302⟩ : ∃ y_ : List (S28), y_ = (x5_1 ++ [(⟨(⟨(rd_T24 t290 x6_1).f0, (rd_T24 t290 x6_1).f1, (rd_T24 t290 x6_1).f2, (rd_T24 t290 x6_1).f3, (rd_T24 t290 x6_1).f4⟩ : S24), t299⟩ : S28)]) := ⟨_, rfl⟩
            replace H : (comptrollerref09_Of.l0 k2 l0 t290 y302 (wrap64 (x6_1 + 1))) = some (r1, r2) := rh hy302 H
            have Ny302 := Aside0.mk hy302; clear hy302
            have H' := Aside0.mk H
            clear H
            obtain ⟨Ao20, co20, eo20⟩ := Kd.R_slice HO_7.out
            subst eo20
            go_wp2_with (first | (go_at_call 29; (with_reducible refine (comptrollerref01_Sum.calls k2 _ _ x7_2 t299 t300 _ ?side1 ?side2 A13.out).mono ?_); (case side1 => repeat (first | exact (Kd.R_reads' HO_7.out).2.2 | (with_reducible refine Kd.C_alloc ?_ _) | (with_reducible refine Kd.C_drewN ?_ _) | (with_reducible refine Kd.C_drew ?_))); (case side2 => exact (Kd.R_reads' HO_7.out).2.1); rintro e w' ⟨rfl, ⟨nd, rfl⟩⟩; (try first | exact ⟨rfl, _, World.drewN_drewN _ _ _⟩ | exact ⟨rfl, _, Eq.trans (World.drewN_drewN _ _ _) (congrArg (World.drewN _) (Nat.add_assoc _ _ _))⟩); have p301 : 0 ≤ (x6_1 : Int) := of_decide_eq_true as_; have q301 : x6_1 < (t290.length : Int) := of_decide_eq_true as_; obtain ⟨ad301, e301, hx301_0, hx301_1, hx301_2, hx301_3, hx301_4⟩ := at_T24 (Kd.R_reads' HO_4.out).2.2 x6_1 p301 q301; cases e301; replace p301 := eq_true p301; replace q301 := eq_true q301) | ((with_reducible refine gate_builtin (b := .append) (xs := #[.tmp 53, .tmp 60]) rfl ?_); at_builtin; refine Kd.R_append k28 (w0 := w) w.heap.size rfl (.tmp 53) (.tmp 60) 22 28 (.agg #[(.string ⟨#[]⟩), (.string ⟨#[]⟩), (.string ⟨#[]⟩), (.string ⟨#[]⟩), (.int .i64 0), (.int .i64 0)]) 80 rfl Try.underlying22 info28 rfl (by decide) (by omega) u5 x5_1 (⟨(⟨(rd_T24 t290 x6_1).f0, (rd_T24 t290 x6_1).f1, (rd_T24 t290 x6_1).f2, (rd_T24 t290 x6_1).f3, (rd_T24 t290 x6_1).f4⟩ : S24), t299⟩ : S28) [.string ((rd_T24 t290 x6_1).f0), .string ((rd_T24 t290 x6_1).f1), .string ((rd_T24 t290 x6_1).f2), .string ((rd_T24 t290 x6_1).f3), .int .i64 ((rd_T24 t290 x6_1).f4), .int .i64 t299] (fun _ => True) (fun _ => False) rfl rfl ?aP (fun _ hk => hk.elim) ?aF ?aO ?aB ?aS ?aL ?_; (case aP => exact k28_mkM _ _ _ (⟨(⟨(rd_T24 t290 x6_1).f0, (rd_T24 t290 x6_1).f1, (rd_T24 t290 x6_1).f2, (rd_T24 t290 x6_1).f3, (rd_T24 t290 x6_1).f4⟩ : S24), t299⟩ : S28)); (case aB => exact bw); (case aF => exact (fun _ _ => trivial)); (case aO => exact (kr HO_5)); (case aS => exact (below_size bw)); (case aL => have := LMc19.out; omega); intro v303 w21 ho hb hg hat; rw [← Ny302.out] at ho; have n0_ := Aside0.mk (Kd.R_over' (kr HO_4) (Kd.R_typed (kr HO_5)) (by decide) hg); have n1_ := Aside0.mk (Kd.R_over' (kr HO_7) (Kd.R_typed (kr HO_5)) (by decide) hg); have n2_ := Aside0.mk (hb); have n3_ := Aside0.mk (ho); clear HO_4; clear HO_7; clear HB; clear HO_5; have HO_4 := n0_; have HO_7 := n1_; have HB := n2_; have HO304 := n3_; clear n0_ n1_ n2_ n3_; clear ho hb hg hat))
            repeat (go_quiet (first | (go_at_call 29; (with_reducible refine (comptrollerref01_Sum.calls k2 _ _ x7_2 t299 t300 _ ?side1 ?side2 A13.out).mono ?_); (case side1 => repeat (first | exact (Kd.R_reads' HO_7.out).2.2 | (with_reducible refine Kd.C_alloc ?_ _) | (with_reducible refine Kd.C_drewN ?_ _) | (with_reducible refine Kd.C_drew ?_))); (case side2 => exact (Kd.R_reads' HO_7.out).2.1); rintro e w' ⟨rfl, ⟨nd, rfl⟩⟩; (try first | exact ⟨rfl, _, World.drewN_drewN _ _ _⟩ | exact ⟨rfl, _, Eq.trans (World.drewN_drewN _ _ _) (congrArg (World.drewN _) (Nat.add_assoc _ _ _))⟩); have p301 : 0 ≤ (x6_1 : Int) := of_decide_eq_true as_; have q301 : x6_1 < (t290.length : Int) := of_decide_eq_true as_; obtain ⟨ad301, e301, hx301_0, hx301_1, hx301_2, hx301_3, hx301_4⟩ := at_T24 (Kd.R_reads' HO_4.out).2.2 x6_1 p301 q301; cases e301; replace p301 := eq_true p301; replace q301 := eq_true q301) | ((with_reducible refine gate_builtin (b := .append) (xs := #[.tmp 53, .tmp 60]) rfl ?_); at_builtin; refine Kd.R_append k28 (w0 := w) w.heap.size rfl (.tmp 53) (.tmp 60) 22 28 (.agg #[(.string ⟨#[]⟩), (.string ⟨#[]⟩), (.string ⟨#[]⟩), (.string ⟨#[]⟩), (.int .i64 0), (.int .i64 0)]) 80 rfl Try.underlying22 info28 rfl (by decide) (by omega) u5 x5_1 (⟨(⟨(rd_T24 t290 x6_1).f0, (rd_T24 t290 x6_1).f1, (rd_T24 t290 x6_1).f2, (rd_T24 t290 x6_1).f3, (rd_T24 t290 x6_1).f4⟩ : S24), t299⟩ : S28) [.string ((rd_T24 t290 x6_1).f0), .string ((rd_T24 t290 x6_1).f1), .string ((rd_T24 t290 x6_1).f2), .string ((rd_T24 t290 x6_1).f3), .int .i64 ((rd_T24 t290 x6_1).f4), .int .i64 t299] (fun _ => True) (fun _ => False) rfl rfl ?aP (fun _ hk => hk.elim) ?aF ?aO ?aB ?aS ?aL ?_; (case aP => exact k28_mkM _ _ _ (⟨(⟨(rd_T24 t290 x6_1).f0, (rd_T24 t290 x6_1).f1, (rd_T24 t290 x6_1).f2, (rd_T24 t290 x6_1).f3, (rd_T24 t290 x6_1).f4⟩ : S24), t299⟩ : S28)); (case aB => exact bw); (case aF => exact (fun _ _ => trivial)); (case aO => exact (kr HO_5)); (case aS => exact (below_size bw)); (case aL => have := LMc19.out; omega); intro v303 w21 ho hb hg hat; rw [← Ny302.out] at ho; have n0_ := Aside0.mk (Kd.R_over' (kr HO_4) (Kd.R_typed (kr HO_5)) (by decide) hg); have n1_ := Aside0.mk (Kd.R_over' (kr HO_7) (Kd.R_typed (kr HO_5)) (by decide) hg); have n2_ := Aside0.mk (hb); have n3_ := Aside0.mk (ho); clear HO_4; clear HO_7; clear HB; clear HO_5; have HO_4 := n0_; have HO_7 := n1_; have HB := n2_; have HO304 := n3_; clear n0_ n1_ n2_ n3_; clear ho hb hg hat)); try go_wp2_with (first | (go_at_call 29; (with_reducible refine (comptrollerref01_Sum.calls k2 _ _ x7_2 t299 t300 _ ?side1 ?side2 A13.out).mono ?_); (case side1 => repeat (first | exact (Kd.R_reads' HO_7.out).2.2 | (with_reducible refine Kd.C_alloc ?_ _) | (with_reducible refine Kd.C_drewN ?_ _) | (with_reducible refine Kd.C_drew ?_))); (case side2 => exact (Kd.R_reads' HO_7.out).2.1); rintro e w' ⟨rfl, ⟨nd, rfl⟩⟩; (try first | exact ⟨rfl, _, World.drewN_drewN _ _ _⟩ | exact ⟨rfl, _, Eq.trans (World.drewN_drewN _ _ _) (congrArg (World.drewN _) (Nat.add_assoc _ _ _))⟩); have p301 : 0 ≤ (x6_1 : Int) := of_decide_eq_true as_; have q301 : x6_1 < (t290.length : Int) := of_decide_eq_true as_; obtain ⟨ad301, e301, hx301_0, hx301_1, hx301_2, hx301_3, hx301_4⟩ := at_T24 (Kd.R_reads' HO_4.out).2.2 x6_1 p301 q301; cases e301; replace p301 := eq_true p301; replace q301 := eq_true q301) | ((with_reducible refine gate_builtin (b := .append) (xs := #[.tmp 53, .tmp 60]) rfl ?_); at_builtin; refine Kd.R_append k28 (w0 := w) w.heap.size rfl (.tmp 53) (.tmp 60) 22 28 (.agg #[(.string ⟨#[]⟩), (.string ⟨#[]⟩), (.string ⟨#[]⟩), (.string ⟨#[]⟩), (.int .i64 0), (.int .i64 0)]) 80 rfl Try.underlying22 info28 rfl (by decide) (by omega) u5 x5_1 (⟨(⟨(rd_T24 t290 x6_1).f0, (rd_T24 t290 x6_1).f1, (rd_T24 t290 x6_1).f2, (rd_T24 t290 x6_1).f3, (rd_T24 t290 x6_1).f4⟩ : S24), t299⟩ : S28) [.string ((rd_T24 t290 x6_1).f0), .string ((rd_T24 t290 x6_1).f1), .string ((rd_T24 t290 x6_1).f2), .string ((rd_T24 t290 x6_1).f3), .int .i64 ((rd_T24 t290 x6_1).f4), .int .i64 t299] (fun _ => True) (fun _ => False) rfl rfl ?aP (fun _ hk => hk.elim) ?aF ?aO ?aB ?aS ?aL ?_; (case aP => exact k28_mkM _ _ _ (⟨(⟨(rd_T24 t290 x6_1).f0, (rd_T24 t290 x6_1).f1, (rd_T24 t290 x6_1).f2, (rd_T24 t290 x6_1).f3, (rd_T24 t290 x6_1).f4⟩ : S24), t299⟩ : S28)); (case aB => exact bw); (case aF => exact (fun _ _ => trivial)); (case aO => exact (kr HO_5)); (case aS => exact (below_size bw)); (case aL => have := LMc19.out; omega); intro v303 w21 ho hb hg hat; rw [← Ny302.out] at ho; have n0_ := Aside0.mk (Kd.R_over' (kr HO_4) (Kd.R_typed (kr HO_5)) (by decide) hg); have n1_ := Aside0.mk (Kd.R_over' (kr HO_7) (Kd.R_typed (kr HO_5)) (by decide) hg); have n2_ := Aside0.mk (hb); have n3_ := Aside0.mk (ho); clear HO_4; clear HO_7; clear HB; clear HO_5; have HO_4 := n0_; have HO_7 := n1_; have HB := n2_; have HO304 := n3_; clear n0_ n1_ n2_ n3_; clear ho hb hg hat)))
            go_roundg k2
            case measure => have := HK1.out; have := HK2.out; omega
            case rel => exact ⟨(y302), (wrap64 (x6_1 + 1)), rs_, H', ⟨by have := HK1.out; have := HK2.out; omega⟩, ⟨kr HO_4⟩, ⟨kr HO304⟩, ⟨bw⟩⟩
           ·rw [if_neg c19] at H
            exact absurd H (by simp)
          ·rw [if_neg c18] at H
           exact absurd H (by simp)
         ·rw [if_neg c17] at H
          exact absurd H (by simp)
       ·rw [if_neg c14] at H
        have c14b0 : (t300 == 0) = false := beq_eq_false_iff_ne.mpr c14
        have c14b1 : (t300 != 0) = true := bne_iff_ne.mpr c14
        simp only [Option.some.injEq, Prod.mk.injEq] at H
        obtain ⟨rfl, rfl⟩ := H
        obtain ⟨Ao22, co22, eo22⟩ := Kd.R_slice HO_7.out
        subst eo22
        go_wp2_with (first | (go_at_call 29; (with_reducible refine (comptrollerref01_Sum.calls k2 _ _ x7_2 t299 t300 _ ?side1 ?side2 A13.out).mono ?_); (case side1 => repeat (first | exact (Kd.R_reads' HO_7.out).2.2 | (with_reducible refine Kd.C_alloc ?_ _) | (with_reducible refine Kd.C_drewN ?_ _) | (with_reducible refine Kd.C_drew ?_))); (case side2 => exact (Kd.R_reads' HO_7.out).2.1); rintro e w' ⟨rfl, ⟨nd, rfl⟩⟩; (try first | exact ⟨rfl, _, World.drewN_drewN _ _ _⟩ | exact ⟨rfl, _, Eq.trans (World.drewN_drewN _ _ _) (congrArg (World.drewN _) (Nat.add_assoc _ _ _))⟩)))
        repeat (go_quiet (first | (go_at_call 29; (with_reducible refine (comptrollerref01_Sum.calls k2 _ _ x7_2 t299 t300 _ ?side1 ?side2 A13.out).mono ?_); (case side1 => repeat (first | exact (Kd.R_reads' HO_7.out).2.2 | (with_reducible refine Kd.C_alloc ?_ _) | (with_reducible refine Kd.C_drewN ?_ _) | (with_reducible refine Kd.C_drew ?_))); (case side2 => exact (Kd.R_reads' HO_7.out).2.1); rintro e w' ⟨rfl, ⟨nd, rfl⟩⟩; (try first | exact ⟨rfl, _, World.drewN_drewN _ _ _⟩ | exact ⟨rfl, _, Eq.trans (World.drewN_drewN _ _ _) (congrArg (World.drewN _) (Nat.add_assoc _ _ _))⟩))); try go_wp2_with (first | (go_at_call 29; (with_reducible refine (comptrollerref01_Sum.calls k2 _ _ x7_2 t299 t300 _ ?side1 ?side2 A13.out).mono ?_); (case side1 => repeat (first | exact (Kd.R_reads' HO_7.out).2.2 | (with_reducible refine Kd.C_alloc ?_ _) | (with_reducible refine Kd.C_drewN ?_ _) | (with_reducible refine Kd.C_drew ?_))); (case side2 => exact (Kd.R_reads' HO_7.out).2.1); rintro e w' ⟨rfl, ⟨nd, rfl⟩⟩; (try first | exact ⟨rfl, _, World.drewN_drewN _ _ _⟩ | exact ⟨rfl, _, Eq.trans (World.drewN_drewN _ _ _) (congrArg (World.drewN _) (Nat.add_assoc _ _ _))⟩))))
        go_ret2
        exact ⟨_, by first | rfl | (simp [errW_none, errW_some] <;> rfl) | (simp [*, errW_none, errW_some] <;> rfl), by first | exact Kd.R_nil _ _ _ _ _ | exact Kd.N_nil _ _ _ _ _ | exact Kd.V_nil _ _ _ _ _ | exact Kd.Q_nil _ _ _ _ _ | exact Kd.S_nil _ _ _ _ _, bw⟩
   ·rw [if_neg c4] at H
    have c4b0 : decide (x6_1 < (t290.length : Int)) = false := decide_eq_false c4
    clear c4
    by_cases c23 : (x5_1.length : Int) > 2000
    ·rw [if_pos c23] at H
     have c23b0 : decide (2000 < (x5_1.length : Int)) = true := decide_eq_true c23
     have c23b1 : decide (2000 < x5_1.length) = true := decide_eq_true (by omega)
     clear c23
     simp only [Option.some.injEq, Prod.mk.injEq] at H
     obtain ⟨rfl, rfl⟩ := H
     obtain ⟨Ao24, co24, eo24⟩ := Kd.R_slice HO_4.out
     subst eo24
     obtain ⟨Ao25, co25, eo25⟩ := Kd.R_slice HO_5.out
     subst eo25; go_wp2
     repeat (go_quiet (fail); try go_wp2)
     go_ret2
     exact ⟨_, by first | rfl | (simp [errW_none, errW_some] <;> rfl) | (simp [*, errW_none, errW_some] <;> rfl), by first | exact Kd.R_nil _ _ _ _ _ | exact Kd.N_nil _ _ _ _ _ | exact Kd.V_nil _ _ _ _ _ | exact Kd.Q_nil _ _ _ _ _ | exact Kd.S_nil _ _ _ _ _, bw⟩
    ·rw [if_neg c23] at H
     have c23b0 : decide (2000 < (x5_1.length : Int)) = false := decide_eq_false c23
     have c23b1 : decide (2000 < x5_1.length) = false := decide_eq_false (by omega)
     clear c23
     simp only [Option.some.injEq, Prod.mk.injEq] at H
     obtain ⟨rfl, rfl⟩ := H
     obtain ⟨Ao26, co26, eo26⟩ := Kd.R_slice HO_4.out
     subst eo26
     obtain ⟨Ao27, co27, eo27⟩ := Kd.R_slice HO_5.out
     subst eo27; go_wp2
     repeat (go_quiet (fail); try go_wp2)
     go_ret2
     exact ⟨_, by first | rfl | (simp [errW_none, errW_some] <;> rfl) | (simp [*, errW_none, errW_some] <;> rfl), kr HO_5, bw⟩

end Go.Proofs.Ytdckeflggcefbaa.Y
namespace Go.Proofs.Ytdckeflggcefbaa.Y
open Go.RowKit Go.Proofs.YtdckeflggcefbaaW.PrintWords Go.Proofs.YtdckeflggcefbaaW.PrintLast Go.Proofs.YtdckeflggcefbaaW.PrintMore
attribute [local go_sem] max2_int min2_int max_two min_two max_three min_three max_four min_four
set_option linter.unusedVariables false
set_option linter.unusedSimpArgs false

/-! ### comptrollerref09_Add: function 11 -/
def comptrollerref09_Add.f (k : Nat) (l0 : List (S28)) (l1 : List (S28)) : Option ((List (S28)) × Int) := (some (([] : List (S28)) : List (S28))).bind fun y305 => (if y305.length + l0.length < 1759218604441 then ((some (y305 ++ l0 : List (S28))).bind fun y308 => (if y308.length + l1.length < 1759218604441 then ((comptrollerref09_Of.f k (y308 ++ l1)).bind fun bt314 => (some (bt314.1, bt314.2))) else (none))) else (none))
theorem comptrollerref09_Add.mono : ∀ a0 a1 k, LeO (comptrollerref09_Add.f k a0 a1) (comptrollerref09_Add.f (k + 1) a0 a1) := by
 intro a0 a1 k
 unfold comptrollerref09_Add.f
 with_reducible repeat' first | apply comptrollerref09_Of.mono | refine LeO.refl _ | refine LeO.none _ | refine LeO.ite ?_ ?_ | refine LeO.bind ?_ (fun _ => ?_)
set_option maxHeartbeats 8000000 in
set_option maxRecDepth 100000 in
theorem comptrollerref09_Add.calls (k : Nat) (A0 : Option Addr) (c0 : Nat) (l0 : List (S28)) (A1 : Option Addr) (c1 : Nat) (l1 : List (S28)) (r1 : List (S28)) (r2 : Int) (w : World) (hr0 : Kd.C k28 w A0 l0.length l0) (hc0 : l0.length ≤ c0) (hr1 : Kd.C k28 w A1 l1.length l1) (hc1 : l1.length ≤ c1) (h : comptrollerref09_Add.f k l0 l1 = some (r1, r2)) :
  Calls Try.prog 11 #[.slice A0 l0.length c0, .slice A1 l1.length c1] w fun e w' => ∃ v0_ : Value, e = .returned (.tuple #[v0_, .int .i64 r2]) ∧ Kd.R k28 28 w' w.heap.size (fun _ => True) v0_ r1 ∧ Below w.heap.size w w' := by
 have HR0 := Aside0.mk hr0; have HC0 := Aside0.mk hc0; clear hr0 hc0; have HR1 := Aside0.mk hr1; have HC1 := Aside0.mk hc1; clear hr1 hc1
 have HB := Aside0.mk (Below.refl w.heap.size w)
 have H : ((some (([] : List (S28)) : List (S28))).bind fun y305 => (if y305.length + l0.length < 1759218604441 then ((some (y305 ++ l0 : List (S28))).bind fun y308 => (if y308.length + l1.length < 1759218604441 then ((comptrollerref09_Of.f k (y308 ++ l1)).bind fun bt314 => (some (bt314.1, bt314.2))) else (none))) else (none))) = some (r1, r2) := h
 clear h
 obtain ⟨y305, hy305⟩ : ∃ y_ : List (S28), y_ = (([] : List (S28))) := ⟨_, rfl⟩
 replace H : (if y305.length + l0.length < 1759218604441 then ((some (y305 ++ l0 : List (S28))).bind fun y308 => (if y308.length + l1.length < 1759218604441 then ((comptrollerref09_Of.f k (y308 ++ l1)).bind fun bt314 => (some (bt314.1, bt314.2))) else (none))) else (none)) = some (r1, r2) := rh hy305 H
 have Ny305 := Aside0.mk hy305; clear hy305
 by_cases c3 : y305.length + l0.length < 1759218604441
 ·rw [if_pos c3] at H; have LMc3 := Aside0.mk c3; clear c3
  obtain ⟨y308, hy308⟩ : ∃ y_ : List (S28), y_ = (y305 ++ l0) := ⟨_, rfl⟩
  replace H : (if y308.length + l1.length < 1759218604441 then ((comptrollerref09_Of.f k (y308 ++ l1)).bind fun bt314 => (some (bt314.1, bt314.2))) else (none)) = some (r1, r2) := rh hy308 H
  have Ny308 := Aside0.mk hy308; clear hy308
  by_cases c4 : y308.length + l1.length < 1759218604441
  ·rw [if_pos c4] at H; have LMc4 := Aside0.mk c4; clear c4
   obtain ⟨y311, hy311⟩ : ∃ y_ : List (S28), y_ = (y308 ++ l1) := ⟨_, rfl⟩
   replace H : ((comptrollerref09_Of.f k y311).bind fun bt314 => (some (bt314.1, bt314.2))) = some (r1, r2) := rh hy311 H
   have Ny311 := Aside0.mk hy311; clear hy311
   replace H := Option.bind_eq_some_iff.mp H
   obtain ⟨⟨t314, t315⟩, A50, H⟩ := H
   replace H : (some (t314, t315)) = some (r1, r2) := H
   have A5 := Aside0.mk A50; clear A50
   simp only [Option.some.injEq, Prod.mk.injEq] at H
   obtain ⟨rfl, rfl⟩ := H
   go_enter Try.func11, Try.ntmps11
   go_wp2_with (first | ((with_reducible refine gate_dst (N := 7) rfl ?_); refine Kd.R_lit k28 _ 28 ?hg (N := 7) ?hd (xs := ([] : List (S28))) (inner := []) (ok := fun _ => True) (okp := fun _ => True) ?hr ?hp (fun _ hk => hk) trivial (Below.refl _ _) (Nat.le_refl _) (by simp) ?_; (case hd => rfl); (case hg => rfl); (case hr => first | (go_simp; done) | (go_simp; rfl)); (case hp => exact (Reps.none _ _)); intro v306 w6 ho7 hb hg_ hnew_; clear hg_ hnew_; (first | rw [← Ny305.out] at ho7 | (simp only [Int.reduceToNat] at ho7; rw [← Ny305.out] at ho7)); have n0_ := Aside0.mk (Kd.R_lower ho7 (below_size bw)); have n1_ := Aside0.mk (below_step bw hb); clear HB; have HO307 := n0_; have HB := n1_; clear n0_ n1_; clear hb ho7) | ((with_reducible refine gate_builtin (b := .append) (xs := #[.tmp 7, .tmp 8]) rfl ?_); at_builtin; refine Kd.R_append_rows k28 (w0 := w) w.heap.size rfl (.tmp 7) (.tmp 8) 22 28 (.agg #[(.string ⟨#[]⟩), (.string ⟨#[]⟩), (.string ⟨#[]⟩), (.string ⟨#[]⟩), (.int .i64 0), (.int .i64 0)]) 80 rfl Try.underlying22 info28 rfl (by decide) (by omega) v306 y305 l0 _ _ _ (fun _ => True) (fun _ => False) rfl rfl ?aO ?aR (fun _ _ h => h) (fun _ h => h.elim) ?aF ?aB ?aS ?aL ?_; (case aR => repeat (first | exact (Kd.C_below HR0.out HB.out) | (with_reducible refine Kd.C_alloc ?_ _) | (with_reducible refine Kd.C_drewN ?_ _) | (with_reducible refine Kd.C_drew ?_))); (case aB => exact bw); (case aF => exact (fun _ _ => trivial)); (case aO => exact (kr HO307)); (case aS => exact (below_size bw)); (case aL => have := LMc3.out; omega); intro v309 w8 ho hb hg hat; rw [← Ny308.out] at ho; have n0_ := Aside0.mk (hb); have n1_ := Aside0.mk (ho); clear HB; clear HO307; have HB := n0_; have HO310 := n1_; clear n0_ n1_; clear ho hb hg hat) | ((with_reducible refine gate_builtin (b := .append) (xs := #[.tmp 10, .tmp 11]) rfl ?_); at_builtin; refine Kd.R_append_rows k28 (w0 := w) w.heap.size rfl (.tmp 10) (.tmp 11) 22 28 (.agg #[(.string ⟨#[]⟩), (.string ⟨#[]⟩), (.string ⟨#[]⟩), (.string ⟨#[]⟩), (.int .i64 0), (.int .i64 0)]) 80 rfl Try.underlying22 info28 rfl (by decide) (by omega) v309 y308 l1 _ _ _ (fun _ => True) (fun _ => False) rfl rfl ?aO ?aR (fun _ _ h => h) (fun _ h => h.elim) ?aF ?aB ?aS ?aL ?_; (case aR => repeat (first | exact (Kd.C_below HR1.out HB.out) | (with_reducible refine Kd.C_alloc ?_ _) | (with_reducible refine Kd.C_drewN ?_ _) | (with_reducible refine Kd.C_drew ?_))); (case aB => exact bw); (case aF => exact (fun _ _ => trivial)); (case aO => exact (kr HO310)); (case aS => exact (below_size bw)); (case aL => have := LMc4.out; omega); intro v312 w9 ho hb hg hat; rw [← Ny311.out] at ho; have n0_ := Aside0.mk (hb); have n1_ := Aside0.mk (ho); clear HB; clear HO310; have HB := n0_; have HO313 := n1_; clear n0_ n1_; clear ho hb hg hat; obtain ⟨Ao10, co10, eo10⟩ := Kd.R_slice HO313.out; subst eo10) | ((with_reducible refine gate_callee (f := 26) rfl ?_); refine goesL_ (some 13) rfl rfl Try.func26 (by kernel_rfl) rfl #[.slice Ao10 y311.length co10] rfl mp_ ?_; (with_reducible refine (comptrollerref09_Of.calls k _ _ y311 t314 t315 _ ?side1 ?side2 A5.out).mono ?_); (case side1 => repeat (first | exact (Kd.R_reads' HO313.out).2.2 | (with_reducible refine Kd.C_alloc ?_ _) | (with_reducible refine Kd.C_drewN ?_ _) | (with_reducible refine Kd.C_drew ?_))); (case side2 => exact (Kd.R_reads' HO313.out).2.1); rintro e w11 ⟨v316, rfl, ho0, hb⟩; refine ⟨_, rfl, ?_⟩; have n0_ := Aside0.mk (Kd.R_elder' (kr HO313) (Kd.R_base ho0) hb); have n1_ := Aside0.mk (Kd.R_lower (Kd.R_new' ho0 (Kd.R_lt (kr HO313))) (below_size bw)); have n2_ := Aside0.mk (below_step bw hb); clear HO313; clear HB; have HO313 := n0_; have HO317 := n1_; have HB := n2_; clear n0_ n1_ n2_; (try clear hb); (try clear hb2); (try clear hk); (try clear hi); (try clear ho0)))
   go_ret2
   exact ⟨_, by first | rfl | (simp [errW_none, errW_some] <;> rfl) | (simp [*, errW_none, errW_some] <;> rfl), by (with_reducible repeat (first | apply Kd.R_alloc | apply Kd.R_drewN | apply Kd.R_drew)); exact Kd.R_mono HO317.out (fun _ hk => trivial), bw⟩
  ·rw [if_neg c4] at H
   exact absurd H (by simp)
 ·rw [if_neg c3] at H
  exact absurd H (by simp)

end Go.Proofs.Ytdckeflggcefbaa.Y
namespace Go.Proofs.Ytdckeflggcefbaa.Y
open Go.RowKit Go.Proofs.YtdckeflggcefbaaW.PrintWords Go.Proofs.YtdckeflggcefbaaW.PrintLast Go.Proofs.YtdckeflggcefbaaW.PrintMore
set_option linter.unusedVariables false
set_option linter.unusedSimpArgs false
def ins (q : S24) : List S24 → List S24
  | [] => [q]
  | y :: r => if cmpK (tk q) (tk y) = 0 then y :: r else if cmpK (tk q) (tk y) < 0 then q :: y :: r else y :: ins q r
theorem ins_len (q : S24) : ∀ l, (ins q l).length ≤ l.length + 1
  | [] => by simp [ins]
  | y :: r => by
    have := ins_len q r
    simp only [ins]
    split
    · simp
    · split <;> simp <;> omega
theorem tk_inj {a b : S24} (h : tk a = tk b) : a = b := by
  cases a; cases b
  simp only [tk, S44.mk.injEq] at h
  obtain ⟨rfl, rfl, rfl, rfl, rfl⟩ := h
  rfl
theorem ins_mem (q : S24) : ∀ (l : List S24) (z : S24), z ∈ ins q l ↔ z = q ∨ z ∈ l
  | [], z => by simp [ins]
  | y :: r, z => by
    have ih := ins_mem q r z
    simp only [ins]
    split
    · rename_i h
      have e := tk_inj ((cmpK_zero _ _).1 h)
      subst e
      simp
    · split
      · simp
      · simp only [List.mem_cons, ih]
        constructor
        · rintro (h | h | h) <;> simp [h]
        · rintro (h | h | h) <;> simp [h]
def R24 (l : List S24) : Prop := l.Pairwise fun x y => cmpK (tk x) (tk y) < 0
theorem ltK {x y z : S44} (h : cmpK x y < 0) (g : cmpK y z < 0) : cmpK x z < 0 := lt_le (x := ⟨x, 0⟩) (y := ⟨y, 0⟩) (z := ⟨z, 0⟩) h (Int.le_of_lt g)
theorem ins_rise (q : S24) : ∀ (l : List S24), R24 l → R24 (ins q l)
  | [], _ => List.pairwise_singleton _ _
  | y :: r, h => by
    have h1 := List.pairwise_cons.1 h
    simp only [ins]
    split
    · exact h
    · rename_i c0
      split
      · rename_i c1
        refine List.pairwise_cons.2 ⟨fun z hz => ?_, h⟩
        rcases List.mem_cons.1 hz with rfl | hz
        · exact c1
        · exact ltK c1 (h1.1 z hz)
      · rename_i c1
        refine List.pairwise_cons.2 ⟨fun z hz => ?_, ins_rise q r h1.2⟩
        rcases (ins_mem q r z).1 hz with rfl | hz
        · have := cmpK_good.anti (tk z) (tk y); omega
        · exact h1.1 z hz
theorem rd24_app (P R : List S24) (x : S24) (i : Int) (hi : i = P.length) : rd_T24 (P ++ x :: R) i = x := by
  subst hi; simp [rd_T24, List.getD_eq_getElem?_getD]
/-- The inner loop. -/
theorem keys1_ev (l : List S28) (i : Nat) (hi : i < l.length) (hl : l.length ≤ 1000000) (r : List S24) : ∀ (R P next : List S24) (done : Bool), (P ++ R).length ≤ 1000000 → next.length + R.length + cond done 0 1 ≤ 1000000 →
    Ev (fun k => comptrollerref09_keys.l0 k l (next ++ if done = true then R else ins (rd_T28 l i).f0 R) ((i + 1 : Nat) : Int)) r → Ev (fun k => comptrollerref09_keys.l1 k l (P ++ R) i next done P.length) r
  | [], P, next, done, h1, h2, H => by
    refine Ev.step H fun k => ?_
    show comptrollerref09_keys.l1 (k + 1) _ _ _ _ _ _ = _
    simp only [comptrollerref09_keys.l1]
    simp only [List.length_nil, Nat.add_zero] at h2
    rw [if_neg (by simp), w64 (n := (i : Int) + 1) (by omega) (by omega)]
    cases done with
    | true => simp
    | false => rw [if_neg (by simp), if_pos (by omega), if_pos (by omega), if_pos (by omega)]; simp [ins]
  | y :: R, P, next, done, h1, h2, H => by
    have hlen : (P ++ y :: R).length = P.length + R.length + 1 := by simp; omega
    rw [hlen] at h1
    simp only [List.length_cons] at h2
    have hw : wrap64 ((P.length : Int) + 1) = (((P ++ [y]).length : Nat) : Int) := by rw [w64 (by omega) (by omega)]; simp
    have ih := fun nx dn g => keys1_ev l i hi hl r R (P ++ [y]) nx dn (by simp; omega) g
    simp only [List.append_assoc, List.singleton_append] at ih
    obtain ⟨G, hG⟩ : ∃ G : Nat → Int → Option (List S24), G = fun k t => if t = 0 then (if t < 0 then (if next.length < 1954687338268 then (comptrollerref09_keys.l1 k l (P ++ y :: R) i (next ++ [y]) true ((P ++ [y]).length : Nat)) else none) else (if next.length < 1954687338268 then (comptrollerref09_keys.l1 k l (P ++ y :: R) i (next ++ [y]) true ((P ++ [y]).length : Nat)) else none)) else (if t < 0 then (if done = true then (if next.length < 1954687338268 then (comptrollerref09_keys.l1 k l (P ++ y :: R) i (next ++ [y]) done ((P ++ [y]).length : Nat)) else none) else (if next.length < 1954687338268 then ((some (next ++ [(rd_T28 l i).f0] : List (S24))).bind fun y279 => (if y279.length < 1954687338268 then (comptrollerref09_keys.l1 k l (P ++ y :: R) i (y279 ++ [y]) true ((P ++ [y]).length : Nat)) else none)) else none)) else (if next.length < 1954687338268 then (comptrollerref09_keys.l1 k l (P ++ y :: R) i (next ++ [y]) done ((P ++ [y]).length : Nat)) else none)) := ⟨_, rfl⟩
    have tail : ∀ t : Int, t = cmpK (tk (rd_T28 l i).f0) (tk y) → Ev (fun k => G k t) r := fun t ht => by
      rw [hG]
      have b1 : next.length < 1954687338268 := by omega
      have b2 : (next ++ [(rd_T28 l i).f0]).length < 1954687338268 := by simp; omega
      have bd : cond done 0 1 ≤ 1 := by cases done <;> simp
      simp only [if_pos b1, Option.bind_some, if_pos b2]
      by_cases c0 : t = 0
      · have hlt : ¬ t < 0 := by omega
        simp only [if_pos c0, if_neg hlt]
        refine ih (next ++ [y]) true (by simp; omega) ?_
        have : (if done = true then y :: R else ins (rd_T28 l i).f0 (y :: R)) = y :: R := by
          cases done with
          | true => rfl
          | false => rw [if_neg (by simp)]; simp only [ins]; rw [if_pos (by omega)]
        simpa [this] using H
      · simp only [if_neg c0]
        by_cases c1 : t < 0
        · simp only [if_pos c1]
          cases done with
          | true =>
            simp only [if_true]
            refine ih (next ++ [y]) true (by simp; omega) ?_
            simpa using H
          | false =>
            simp only [if_neg (show ¬ (false = true) by decide)]
            simp only [cond_false] at h2
            refine ih (next ++ [(rd_T28 l i).f0] ++ [y]) true (by simp; omega) ?_
            have : (if false = true then y :: R else ins (rd_T28 l i).f0 (y :: R)) = (rd_T28 l i).f0 :: y :: R := by
              rw [if_neg (by simp)]; simp only [ins]; rw [if_neg (by omega), if_pos (by omega)]
            rw [this] at H
            simpa using H
        · simp only [if_neg c1]
          refine ih (next ++ [y]) done (by simp; omega) ?_
          have : (if done = true then y :: R else ins (rd_T28 l i).f0 (y :: R)) = y :: (if done = true then R else ins (rd_T28 l i).f0 R) := by
            cases done with
            | true => rfl
            | false => rw [if_neg (by simp), if_neg (by simp)]; simp only [ins]; rw [if_neg (by omega), if_neg (by omega)]
          rw [this] at H
          simpa using H
    refine Ev.step (Ev.bind (g := G) (refCmp_ev (tk (rd_T28 l i).f0) (tk y)) (tail _ rfl)) fun k => ?_
    show comptrollerref09_keys.l1 (k + 1) _ _ _ _ _ _ = _
    simp only [comptrollerref09_keys.l1]
    rw [hlen, if_pos (by omega), if_pos (by omega), if_pos (by omega), if_pos (by omega), rd24_app P R y _ rfl, hw, hG]
    rfl
def keysOf (l : List S28) (acc : List S24) : List S24 := l.foldl (fun a x => ins x.f0 a) acc
theorem keys0_ev : ∀ (R P : List S28) (acc : List S24), (P ++ R).length ≤ 1000000 → acc.length + R.length ≤ 900000 → Ev (fun k => comptrollerref09_keys.l0 k (P ++ R) acc P.length) (keysOf R acc)
  | [], P, acc, h, h2 => by
    refine Ev.some fun k => ?_
    simp only [comptrollerref09_keys.l0]
    rw [if_neg (by simp)]
    rfl
  | x :: R, P, acc, h, h2 => by
    have hl : (P ++ x :: R).length = P.length + R.length + 1 := by simp; omega
    simp only [List.length_cons] at h2
    have il := ins_len x.f0 acc
    have ih := keys0_ev R (P ++ [x]) (ins x.f0 acc) (by simp at h ⊢; omega) (by omega)
    refine Ev.step (keys1_ev (P ++ x :: R) P.length (by omega) h _ acc [] [] false (by simp; omega) (by simp; omega) ?_) fun k => ?_
    · rw [rd28_app P R x _ rfl]
      simpa [keysOf] using ih
    · show comptrollerref09_keys.l0 (k + 1) _ _ _ = _
      simp only [comptrollerref09_keys.l0]
      rw [if_pos (by omega)]
      rfl
theorem keys_ev (l : List S28) (h : l.length ≤ 900000) : Ev (fun k => comptrollerref09_keys.f k l) (keysOf l []) := by
  simpa [comptrollerref09_keys.f] using keys0_ev l [] [] (by simp; omega) (by simp; omega)
theorem keysOf_rise : ∀ (l : List S28) (acc : List S24), R24 acc → R24 (keysOf l acc)
  | [], acc, h => h
  | x :: l, acc, h => keysOf_rise l _ (ins_rise _ _ h)
theorem keysOf_mem (z : S24) : ∀ (l : List S28) (acc : List S24), z ∈ keysOf l acc ↔ z ∈ acc ∨ ∃ y ∈ l, y.f0 = z
  | [], acc => by simp [keysOf]
  | x :: l, acc => by
    have ih := keysOf_mem z l (ins x.f0 acc)
    show z ∈ keysOf l (ins x.f0 acc) ↔ _
    rw [ih, ins_mem]
    constructor
    · rintro ((rfl | h) | ⟨y, hy, e⟩)
      · exact .inr ⟨x, by simp, rfl⟩
      · exact .inl h
      · exact .inr ⟨y, by simp [hy], e⟩
    · rintro (h | ⟨y, hy, e⟩)
      · exact .inl (.inr h)
      · rcases List.mem_cons.1 hy with rfl | hy
        · exact .inl (.inl e.symm)
        · exact .inr ⟨y, hy, e⟩
theorem keysOf_len : ∀ (l : List S28) (acc : List S24), (keysOf l acc).length ≤ acc.length + l.length
  | [], acc => by simp [keysOf]
  | x :: l, acc => by
    have ih := keysOf_len l (ins x.f0 acc)
    have := ins_len x.f0 acc
    show (keysOf l (ins x.f0 acc)).length ≤ _
    simp; omega
theorem key_test (a b : S24) : (a.f0.toList == b.f0.toList && (a.f1.toList == b.f1.toList && (a.f2.toList == b.f2.toList && (a.f3.toList == b.f3.toList && (a.f4 == b.f4))))) = (cmpK (tk b) (tk a) == 0) := by
  by_cases h : cmpK (tk b) (tk a) = 0
  · have e := tk_inj ((cmpK_zero _ _).1 h)
    subst e
    simp [h]
  · have : (cmpK (tk b) (tk a) == 0) = false := by simpa using h
    rw [this]
    refine Bool.eq_false_iff.2 fun hc => h ?_
    simp only [Bool.and_eq_true, beq_iff_eq, Lib.toList_data] at hc
    obtain ⟨h0, h1, h2, h3, h4⟩ := hc
    have e0 := bytes_eq h0
    have e1 := bytes_eq h1
    have e2 := bytes_eq h2
    have e3 := bytes_eq h3
    obtain ⟨a0, a1, a2, a3, a4⟩ := a
    obtain ⟨b0, b1, b2, b3, b4⟩ := b
    simp only at e0 e1 e2 e3 h4
    subst e0 e1 e2 e3 h4
    exact cmpK_good.refl _
theorem ams_cons (q : S44) (x : S28) (R : List S28) : ams q ((x :: R).map toT) = if (cmpK q (tk x.f0) == 0) = true then x.f1 :: ams q (R.map toT) else ams q (R.map toT) := by
  simp only [ams, List.map_cons]
  by_cases h : (cmpK q (tk x.f0) == 0) = true
  · rw [if_pos h, List.filter_cons_of_pos (p := fun y : S55 => cmpK q y.f0 == 0) (a := toT x) h]; rfl
  · rw [if_neg h, List.filter_cons_of_neg (p := fun y : S55 => cmpK q y.f0 == 0) (a := toT x) h]
/-- A key's amounts. -/
theorem of1_ev_ (ks : List S24) (out : List S28) (i : Nat) (hi : i < ks.length) (hk : ks.length ≤ 900000) (r : List S28 × Int) : ∀ (R P : List S28) (am : List Int), (P ++ R).length ≤ 1000000 → am.length + R.length ≤ 1000000 →
    Ev (fun k => comptrollerref09_Of.l1 k (P ++ R) ks out i (am ++ ams (tk (rd_T24 ks i)) (R.map toT)) (P ++ R).length) r → Ev (fun k => comptrollerref09_Of.l1 k (P ++ R) ks out i am P.length) r
  | [], P, am, h, h2, H => by simpa [ams] using H
  | x :: R, P, am, h, h2, H => by
    have hl : (P ++ x :: R).length = P.length + R.length + 1 := by simp; omega
    simp only [List.length_cons] at h2
    have ih := fun am' g => of1_ev_ ks out i hi hk r R (P ++ [x]) am' (by simp at h ⊢; omega) g
    simp only [List.append_assoc, List.singleton_append] at ih
    rw [ams_cons] at H
    have hw : wrap64 ((P.length : Int) + 1) = (((P ++ [x]).length : Nat) : Int) := by rw [hl] at h; rw [w64 (by omega) (by omega)]; simp
    have st : ∀ k, comptrollerref09_Of.l1 (k + 1) (P ++ x :: R) ks out i am P.length = if (cmpK (tk (rd_T24 ks i)) (tk x.f0) == 0) = true then comptrollerref09_Of.l1 k (P ++ x :: R) ks out i (am ++ [x.f1]) ((P ++ [x]).length : Nat) else comptrollerref09_Of.l1 k (P ++ x :: R) ks out i am ((P ++ [x]).length : Nat) := fun k => by
      simp only [comptrollerref09_Of.l1]
      rw [hl] at h ⊢
      rw [if_pos (by omega), if_pos (by omega), if_pos (by omega), if_pos (by omega), rd28_app P R x _ rfl, hw, key_test]
      rw [if_pos (show am.length < 17592186044416 by omega)]
    by_cases c : (cmpK (tk (rd_T24 ks i)) (tk x.f0) == 0) = true
    · rw [if_pos c] at H
      exact Ev.step (ih (am ++ [x.f1]) (by simp; omega) (by simpa using H)) fun k => by
        show comptrollerref09_Of.l1 (k + 1) _ _ _ _ _ _ = _
        rw [st, if_pos c]
    · rw [if_neg c] at H
      exact Ev.step (ih am (by omega) (by simpa using H)) fun k => by
        show comptrollerref09_Of.l1 (k + 1) _ _ _ _ _ _ = _
        rw [st, if_neg c]
theorem ams_fit (q : S44) (l : List S55) (h : ∀ y ∈ l, Fit y.f1) : ∀ y ∈ ams q l, Fit y := fun y hy => by
  obtain ⟨z, hz, rfl⟩ := List.mem_map.1 hy
  exact h z ((List.mem_filter.1 hz).1)
theorem ams_len (q : S44) (l : List S55) : (ams q l).length ≤ l.length := by
  simp only [ams, List.length_map]; exact List.length_filter_le _ _
theorem of0_ev (l : List S28) (hl : l.length ≤ 900000) (hf : ∀ y ∈ l, Fit y.f1) : ∀ (R P : List S24) (out : List S28), (P ++ R).length ≤ 900000 → out.length + R.length ≤ 900000 →
    ∃ o e, Ev (fun k => comptrollerref09_Of.l0 k l (P ++ R) out P.length) (o, e) ∧ gath (l.map toT) (R.map tk) (out.map toT) = (o.map toT, e)
  | [], P, out, h, h2 => by
    by_cases c : (out.length : Int) > 2000
    · refine ⟨[], 4, Ev.some fun k => ?_, ?_⟩
      · simp only [comptrollerref09_Of.l0]
        rw [if_neg (by simp), if_pos c]
      · simp only [gath, List.map_nil, List.length_map]
        rw [if_pos c]
    · refine ⟨out, 0, Ev.some fun k => ?_, ?_⟩
      · simp only [comptrollerref09_Of.l0]
        rw [if_neg (by simp), if_neg c]
      · simp only [gath, List.map_nil, List.length_map]
        rw [if_neg c]
  | q :: R, P, out, h, h2 => by
    have hlen : (P ++ q :: R).length = P.length + R.length + 1 := by simp; omega
    have h' := h
    rw [hlen] at h'
    simp only [List.length_cons] at h2
    have rq : rd_T24 (P ++ q :: R) (P.length : Int) = q := rd24_app P R q _ rfl
    have hw : wrap64 ((P.length : Int) + 1) = (((P ++ [q]).length : Nat) : Int) := by rw [w64 (by omega) (by omega)]; simp
    have al := ams_len (tk q) (l.map toT)
    rw [List.length_map] at al
    have af := ams_fit (tk q) (l.map toT) fun y hy => by obtain ⟨z, hz, rfl⟩ := List.mem_map.1 hy; exact hf z hz
    have start : ∀ r, Ev (fun k => (comptrollerref01_Sum.f k (ams (tk q) (l.map toT))).bind fun bt => (if bt.2 = 0 then (if bt.1 = 0 then (comptrollerref09_Of.l0 k l (P ++ q :: R) out ((P ++ [q]).length : Nat)) else (comptrollerref09_Of.l0 k l (P ++ q :: R) (out ++ [⟨q, bt.1⟩]) ((P ++ [q]).length : Nat))) else (some (([] : List (S28)), bt.2)))) r → Ev (fun k => comptrollerref09_Of.l0 k l (P ++ q :: R) out P.length) r := fun r H => by
      refine Ev.step (of1_ev_ (P ++ q :: R) out P.length (by omega) h r l [] [] (by simp; omega) (by simp; omega) ?_) fun k => ?_
      · rw [rq]
        refine Ev.step H fun k => ?_
        show comptrollerref09_Of.l1 (k + 1) _ _ _ _ _ _ = _
        simp only [comptrollerref09_Of.l1, List.nil_append]
        rw [if_neg (by omega), hw, hlen]
        have p1 : (0 : Int) ≤ (P.length : Int) := by omega
        have p2 : (P.length : Int) < ((P.length + R.length + 1 : Nat) : Int) := by omega
        have p3 : out.length < 1759218604441 := by omega
        simp only [if_pos p1, if_pos p2, if_pos p3, rq]
      · show comptrollerref09_Of.l0 (k + 1) _ _ _ _ = _
        simp only [comptrollerref09_Of.l0]
        rw [if_pos (by omega)]
        rfl
    have sum := refSum_ev (ams (tk q) (l.map toT)) (by omega) af
    have ih := fun o g => of0_ev l hl hf R (P ++ [q]) o (by simp; omega) g
    simp only [List.append_assoc, List.singleton_append] at ih
    simp only [List.map_cons, gath]
    cases hc : sumL 0 (ams (tk q) (l.map toT)) with
    | none =>
      rw [hc] at sum
      refine ⟨[], 2, start _ (Ev.bind (g := fun k bt => (if bt.2 = 0 then (if bt.1 = 0 then (comptrollerref09_Of.l0 k l (P ++ q :: R) out ((P ++ [q]).length : Nat)) else (comptrollerref09_Of.l0 k l (P ++ q :: R) (out ++ [⟨q, bt.1⟩]) ((P ++ [q]).length : Nat))) else (some (([] : List (S28)), bt.2)))) sum (Ev.const fun k => rfl)), rfl⟩
    | some m =>
      rw [hc] at sum
      by_cases hm : m = 0
      · obtain ⟨o, e, g1, g2⟩ := ih out (by omega)
        refine ⟨o, e, start _ (Ev.bind (g := fun k bt => (if bt.2 = 0 then (if bt.1 = 0 then (comptrollerref09_Of.l0 k l (P ++ q :: R) out ((P ++ [q]).length : Nat)) else (comptrollerref09_Of.l0 k l (P ++ q :: R) (out ++ [⟨q, bt.1⟩]) ((P ++ [q]).length : Nat))) else (some (([] : List (S28)), bt.2)))) sum ?_), ?_⟩
        · exact g1.eq fun k => by rw [if_pos (show (res (some m)).2 = 0 from rfl), if_pos (show (res (some m)).1 = 0 from hm)]
        · simp only [if_pos hm]
          exact g2
      · obtain ⟨o, e, g1, g2⟩ := ih (out ++ [⟨q, m⟩]) (by simp; omega)
        refine ⟨o, e, start _ (Ev.bind (g := fun k bt => (if bt.2 = 0 then (if bt.1 = 0 then (comptrollerref09_Of.l0 k l (P ++ q :: R) out ((P ++ [q]).length : Nat)) else (comptrollerref09_Of.l0 k l (P ++ q :: R) (out ++ [⟨q, bt.1⟩]) ((P ++ [q]).length : Nat))) else (some (([] : List (S28)), bt.2)))) sum ?_), ?_⟩
        · exact g1.eq fun k => by rw [if_pos (show (res (some m)).2 = 0 from rfl), if_neg (show ¬ (res (some m)).1 = 0 from hm)]; rfl
        · simp only [if_neg hm]
          simpa [toT, tk] using g2
theorem gath_len (l : List S55) : ∀ (ks : List S44) (out : List S55), (gath l ks out).1.length ≤ out.length + ks.length
  | [], out => by simp only [gath]; split <;> simp
  | x :: ks, out => by
    have h1 := gath_len l ks out
    simp only [gath]
    split
    · simp
    · rename_i n _
      have h2 := gath_len l ks (out ++ [⟨x, n⟩])
      simp only [List.length_append, List.length_cons, List.length_nil] at h2 ⊢
      split <;> omega
/-- The reference's cube is the program's, or their errors are one. -/
theorem Of_same (l : List S28) (hl : l.length ≤ 900000) (hf : ∀ y ∈ l, Fit y.f1) : ∃ o e, Ev (fun k => comptrollerref09_Of.f k l) (o, e) ∧ Ev (fun k => fact_Of.f k (l.map toT)) (o.map toT, e) ∧ o.length ≤ l.length := by
  obtain ⟨ks, k1, k2, k3⟩ := Of_gath (l.map toT) (by simp; omega) fun y hy => by obtain ⟨z, hz, rfl⟩ := List.mem_map.1 hy; exact hf z hz
  have kl := keysOf_len l []
  simp only [List.length_nil, Nat.zero_add] at kl
  obtain ⟨o, e, g1, g2⟩ := of0_ev l hl hf (keysOf l []) [] [] (by simp; omega) (by simp; omega)
  have er : ks = (keysOf l []).map tk := RiseK.unique _ _ k1 (List.pairwise_map.2 (keysOf_rise l [] List.Pairwise.nil)) fun x => by
    rw [k2]
    constructor
    · rintro ⟨y, hy, rfl⟩
      obtain ⟨z, hz, rfl⟩ := List.mem_map.1 hy
      exact List.mem_map.2 ⟨z.f0, (keysOf_mem _ _ _).2 (.inr ⟨z, hz, rfl⟩), rfl⟩
    · intro hx
      obtain ⟨q, hq, rfl⟩ := List.mem_map.1 hx
      rcases (keysOf_mem _ _ _).1 hq with h | ⟨z, hz, rfl⟩
      · cases h
      · exact ⟨toT z, List.mem_map.2 ⟨z, hz, rfl⟩, rfl⟩
  rw [er] at k3
  rw [show (([] : List S55)) = ([] : List S28).map toT from rfl, g2] at k3
  have gl := gath_len (l.map toT) ((keysOf l []).map tk) ([] : List S55)
  rw [show (([] : List S55)) = ([] : List S28).map toT from rfl, g2] at gl
  simp only [List.length_map, List.length_nil] at gl
  refine ⟨o, e, ?_, k3, by omega⟩
  unfold comptrollerref09_Of.f
  exact Ev.bind (g := fun k t => comptrollerref09_Of.l0 k l t ([] : List S28) 0) (keys_ev l hl) (by simpa using g1)
end Go.Proofs.Ytdckeflggcefbaa.Y
namespace Go.Proofs.Ytdckeflggcefbaa.Y
open Go.RowKit Go.Proofs.YtdckeflggcefbaaW.PrintWords Go.Proofs.YtdckeflggcefbaaW.PrintLast Go.Proofs.YtdckeflggcefbaaW.PrintMore
attribute [local go_sem] max2_int min2_int max_two min_two max_three min_three max_four min_four
set_option linter.unusedVariables false
set_option linter.unusedSimpArgs false

/-! ### comptrollerref09_Sum: function 13 -/
def comptrollerref09_Sum.l0 : Nat → List (S28) → ByteArray → ByteArray → ByteArray → List Int → Int → Option (Int × Int)
 | 0, _, _, _, _, _, _ => none
 | k + 1, x0, x1, x2, x3, x10, x11 => if x11 < (x0.length : Int) then (if 0 ≤ x11 then (if x1.toList = ([] : List UInt8) then (if x2.toList = ([] : List UInt8) then (if x3.toList = ([] : List UInt8) then (if x10.length < 17592186044416 then (comptrollerref09_Sum.l0 k x0 x1 x2 x3 (x10 ++ [(rd_T28 x0 x11).f1]) (wrap64 (x11 + 1))) else (none)) else (if ((rd_T28 x0 x11).f0.f2).toList = x3.toList then (if x10.length < 17592186044416 then (comptrollerref09_Sum.l0 k x0 x1 x2 x3 (x10 ++ [(rd_T28 x0 x11).f1]) (wrap64 (x11 + 1))) else (none)) else (comptrollerref09_Sum.l0 k x0 x1 x2 x3 x10 (wrap64 (x11 + 1))))) else (if ((rd_T28 x0 x11).f0.f1).toList = x2.toList then (if x3.toList = ([] : List UInt8) then (if x10.length < 17592186044416 then (comptrollerref09_Sum.l0 k x0 x1 x2 x3 (x10 ++ [(rd_T28 x0 x11).f1]) (wrap64 (x11 + 1))) else (none)) else (if ((rd_T28 x0 x11).f0.f2).toList = x3.toList then (if x10.length < 17592186044416 then (comptrollerref09_Sum.l0 k x0 x1 x2 x3 (x10 ++ [(rd_T28 x0 x11).f1]) (wrap64 (x11 + 1))) else (none)) else (comptrollerref09_Sum.l0 k x0 x1 x2 x3 x10 (wrap64 (x11 + 1))))) else (comptrollerref09_Sum.l0 k x0 x1 x2 x3 x10 (wrap64 (x11 + 1))))) else (if ((rd_T28 x0 x11).f0.f0).toList = x1.toList then (if x2.toList = ([] : List UInt8) then (if x3.toList = ([] : List UInt8) then (if x10.length < 17592186044416 then (comptrollerref09_Sum.l0 k x0 x1 x2 x3 (x10 ++ [(rd_T28 x0 x11).f1]) (wrap64 (x11 + 1))) else (none)) else (if ((rd_T28 x0 x11).f0.f2).toList = x3.toList then (if x10.length < 17592186044416 then (comptrollerref09_Sum.l0 k x0 x1 x2 x3 (x10 ++ [(rd_T28 x0 x11).f1]) (wrap64 (x11 + 1))) else (none)) else (comptrollerref09_Sum.l0 k x0 x1 x2 x3 x10 (wrap64 (x11 + 1))))) else (if ((rd_T28 x0 x11).f0.f1).toList = x2.toList then (if x3.toList = ([] : List UInt8) then (if x10.length < 17592186044416 then (comptrollerref09_Sum.l0 k x0 x1 x2 x3 (x10 ++ [(rd_T28 x0 x11).f1]) (wrap64 (x11 + 1))) else (none)) else (if ((rd_T28 x0 x11).f0.f2).toList = x3.toList then (if x10.length < 17592186044416 then (comptrollerref09_Sum.l0 k x0 x1 x2 x3 (x10 ++ [(rd_T28 x0 x11).f1]) (wrap64 (x11 + 1))) else (none)) else (comptrollerref09_Sum.l0 k x0 x1 x2 x3 x10 (wrap64 (x11 + 1))))) else (comptrollerref09_Sum.l0 k x0 x1 x2 x3 x10 (wrap64 (x11 + 1))))) else (comptrollerref09_Sum.l0 k x0 x1 x2 x3 x10 (wrap64 (x11 + 1))))) else (none)) else ((comptrollerref01_Sum.f k x10).bind fun bt352 => (some (bt352.1, bt352.2)))
def comptrollerref09_Sum.f (k : Nat) (l0 : List (S28)) (a1 : ByteArray) (a2 : ByteArray) (a3 : ByteArray) : Option (Int × Int) := comptrollerref09_Sum.l0 k l0 a1 a2 a3 ([] : List Int) 0
theorem comptrollerref09_Sum.mono_l : ∀ k, (∀ y0 y1 y2 y3 y4 y5, LeO (comptrollerref09_Sum.l0 k y0 y1 y2 y3 y4 y5) (comptrollerref09_Sum.l0 (k + 1) y0 y1 y2 y3 y4 y5))
 | 0 => fun _ _ _ _ _ _ r h => by simp [comptrollerref09_Sum.l0] at h
 | k + 1 => by
  have ih0 := comptrollerref09_Sum.mono_l k
  ·intro y0 y1 y2 y3 y4 y5
   unfold comptrollerref09_Sum.l0
   with_reducible repeat' first | apply ih0 | apply comptrollerref01_Sum.mono | refine LeO.refl _ | refine LeO.none _ | refine LeO.ite ?_ ?_ | refine LeO.bind ?_ (fun _ => ?_)
theorem comptrollerref09_Sum.mono : ∀ a0 a1 a2 a3 k, LeO (comptrollerref09_Sum.f k a0 a1 a2 a3) (comptrollerref09_Sum.f (k + 1) a0 a1 a2 a3) := by
 intro a0 a1 a2 a3 k
 have ih0 := comptrollerref09_Sum.mono_l k
 unfold comptrollerref09_Sum.f
 with_reducible repeat' first | apply ih0 | apply comptrollerref01_Sum.mono | refine LeO.refl _ | refine LeO.none _ | refine LeO.ite ?_ ?_ | refine LeO.bind ?_ (fun _ => ?_)
set_option maxHeartbeats 8000000 in
set_option maxRecDepth 100000 in
theorem comptrollerref09_Sum.calls (k : Nat) (A0 : Option Addr) (c0 : Nat) (l0 : List (S28)) (a1 : ByteArray) (a2 : ByteArray) (a3 : ByteArray) (r1 : Int) (r2 : Int) (w : World) (hr0 : Kd.C k28 w A0 l0.length l0) (hc0 : l0.length ≤ c0) (h : comptrollerref09_Sum.f k l0 a1 a2 a3 = some (r1, r2)) :
  Calls Try.prog 13 #[.slice A0 l0.length c0, .string a1, .string a2, .string a3] w fun e w' => e = .returned (.tuple #[.int .i64 r1, .int .i64 r2]) ∧ Below w.heap.size w w' := by
 have hu24 := Try.underlying24; have HR0 := Aside0.mk hr0; have HC0 := Aside0.mk hc0; clear hr0 hc0
 have HB := Aside0.mk (Below.refl w.heap.size w)
 have H : (comptrollerref09_Sum.l0 k l0 a1 a2 a3 ([] : List Int) 0) = some (r1, r2) := h
 clear h
 have H' := Aside0.mk H
 clear H
 go_enter Try.func13, Try.ntmps13
 go_wp2
 go_loopg [10, 11] k (fun kq v10 v11 w' => ∃ (x10_1 : List Int) (x11_1 : Int), v11 = .int .i64 x11_1 ∧ Aside0 (comptrollerref09_Sum.l0 kq l0 a1 a2 a3 x10_1 x11_1 = some (r1, r2)) ∧ Aside0 (kq ≤ k) ∧ Aside0 (Kd.R (Kd.int .i64) 2 w' w.heap.size (fun _ => True) v10 x10_1) ∧ Aside0 (Below w.heap.size w w'))
 case atStart => exact ⟨(([] : List Int)), (0), rs_, H', ⟨Nat.le_refl _⟩, ⟨by first | exact Kd.R_nil _ _ _ _ _ | exact Kd.N_nil _ _ _ _ _ | exact Kd.V_nil _ _ _ _ _ | exact Kd.Q_nil _ _ _ _ _ | exact Kd.S_nil _ _ _ _ _⟩, ⟨bw⟩⟩
 case round =>
  clear H'
  (try clear c1); (try clear p2)
  obtain ⟨x10_1, x11_1, rfl, HA, HK1, HO_10, HB⟩ := hrel
  cases gk with
  | zero => exact absurd HA.out (by simp [comptrollerref09_Sum.l0])
  | succ k1 =>
   have H := HA.out; clear HA
   simp only [comptrollerref09_Sum.l0] at H
   by_cases c5 : x11_1 < (l0.length : Int)
   ·rw [if_pos c5] at H
    have c5b0 : decide (x11_1 < (l0.length : Int)) = true := decide_eq_true c5
    clear c5
    by_cases c6 : 0 ≤ x11_1
    ·rw [if_pos c6] at H
     have c6b0 : decide (0 ≤ x11_1) = true := decide_eq_true c6
     clear c6
     by_cases c7 : a1.toList = ([] : List UInt8)
     ·rw [if_pos c7] at H
      have c7b0 : (a1.toList == ([] : List UInt8)) = true := beq_iff_eq.mpr c7
      have c7b1 : (a1.toList != ([] : List UInt8)) = false := bne_eq_false_iff_eq.mpr c7
      clear c7
      by_cases c8 : a2.toList = ([] : List UInt8)
      ·rw [if_pos c8] at H
       have c8b0 : (a2.toList == ([] : List UInt8)) = true := beq_iff_eq.mpr c8
       have c8b1 : (a2.toList != ([] : List UInt8)) = false := bne_eq_false_iff_eq.mpr c8
       clear c8
       by_cases c9 : a3.toList = ([] : List UInt8)
       ·rw [if_pos c9] at H
        have c9b0 : (a3.toList == ([] : List UInt8)) = true := beq_iff_eq.mpr c9
        have c9b1 : (a3.toList != ([] : List UInt8)) = false := bne_eq_false_iff_eq.mpr c9
        clear c9
        by_cases c10 : x10_1.length < 17592186044416
        ·rw [if_pos c10] at H; have LMc10 := Aside0.mk c10; clear c10
         obtain ⟨y321, hy321⟩ : ∃ y_ : List Int, y_ = (x10_1 ++ [(rd_T28 l0 x11_1).f1]) := ⟨_, rfl⟩
         replace H : (comptrollerref09_Sum.l0 k1 l0 a1 a2 a3 y321 (wrap64 (x11_1 + 1))) = some (r1, r2) := rh hy321 H
         have Ny321 := Aside0.mk hy321; clear hy321
         have H' := Aside0.mk H
         clear H
         have p318 : 0 ≤ (x11_1 : Int) := of_decide_eq_true as_
         have q318 : x11_1 < (l0.length : Int) := of_decide_eq_true as_
         obtain ⟨ad318, e318, hx318_0, hx318_1, hx318_2, hx318_3, hx318_4, hx318_5⟩ := at_T28 HR0.out x11_1 p318 q318
         cases e318; replace hx318_0 := cb HB hx318_0; replace hx318_1 := cb HB hx318_1; replace hx318_2 := cb HB hx318_2; replace hx318_3 := cb HB hx318_3; replace hx318_4 := cb HB hx318_4; replace hx318_5 := cb HB hx318_5; replace p318 := eq_true p318; replace q318 := eq_true q318
         go_wp2_with (first | ((with_reducible refine gate_dst (N := 12) rfl ?_); refine box_event ?hg (N := 12) ?hd (cs := #[.string (⟨#[]⟩ : ByteArray), .string (⟨#[]⟩ : ByteArray), .string (⟨#[]⟩ : ByteArray), .string (⟨#[]⟩ : ByteArray), .int .i64 0]) (t := 24) ?hr ?_; (case hd => rfl); (case hg => rfl); (case hr => first | (go_simp; done) | (go_simp; rfl)); intro gb319 hg w11 hbox hb; have n0_ := Aside0.mk (Kd.R_below (kr HO_10) hb); have n1_ := Aside0.mk (below_step bw hb); have n2_ := Aside0.mk (hbox); have n3_ := Aside0.mk ((by rw [hg]; exact (below_size bw) : w.heap.size ≤ gb319)); have n4_ := Aside0.mk ((by rw [hg]; exact (below_size bw) : w.heap.size ≤ gb319)); clear HO_10; clear HB; have HO_10 := n0_; have HB := n1_; have BK319 := n2_; have GW319 := n3_; have GE319 := n4_; clear n0_ n1_ n2_ n3_ n4_; clear hb hbox hg; obtain ⟨hcz12_0, hcz12_1, hcz12_2, hcz12_3, hcz12_4⟩ := bc5 BK319.out; have hfz12_0 := blk_frozen BK319.out 0; have hfz12_1 := blk_frozen BK319.out 1; have hfz12_2 := blk_frozen BK319.out 2; have hfz12_3 := blk_frozen BK319.out 3; have hfz12_4 := blk_frozen BK319.out 4; have p320 : 0 ≤ (x11_1 : Int) := of_decide_eq_true as_; have q320 : x11_1 < (l0.length : Int) := of_decide_eq_true as_; obtain ⟨ad320, e320, hx320_0, hx320_1, hx320_2, hx320_3, hx320_4, hx320_5⟩ := at_T28 HR0.out x11_1 p320 q320; obtain rfl : ad318 = ad320 := (by injection e320); have hn320_0 : ad318.block ≠ gb319 := Nat.ne_of_lt (Nat.lt_of_lt_of_le (by have := World.block_lt_of_cell? _ _ hx320_0; first | rwa [add_block] at this | exact this) GW319.out); replace hx320_0 := cb HB hx320_0; replace hx320_1 := cb HB hx320_1; replace hx320_2 := cb HB hx320_2; replace hx320_3 := cb HB hx320_3; replace hx320_4 := cb HB hx320_4; replace hx320_5 := cb HB hx320_5; replace hx320_0 := cf24 gb319 ((rd_T28 l0 x11_1).f0) hx320_0; replace hx320_1 := cf24 gb319 ((rd_T28 l0 x11_1).f0) hx320_1; replace hx320_2 := cf24 gb319 ((rd_T28 l0 x11_1).f0) hx320_2; replace hx320_3 := cf24 gb319 ((rd_T28 l0 x11_1).f0) hx320_3; replace hx320_4 := cf24 gb319 ((rd_T28 l0 x11_1).f0) hx320_4; replace hx320_5 := cf24 gb319 ((rd_T28 l0 x11_1).f0) hx320_5; clear hn320_0; replace p320 := eq_true p320; replace q320 := eq_true q320) | ((with_reducible refine gate_builtin (b := .append) (xs := #[.tmp 52, .tmp 58]) rfl ?_); at_builtin; refine Kd.R_append (Kd.int .i64) (w0 := w) w.heap.size rfl (.tmp 52) (.tmp 58) 62 2 (.int .i64 0) 8 rfl Try.underlying62 info2 rfl (by decide) (by omega) u10 x10_1 ((rd_T28 l0 x11_1).f1) [.int .i64 ((rd_T28 l0 x11_1).f1)] (fun _ => True) (fun _ => False) rfl (by first | (go_simp; done) | (go_simp; rfl)) ?aP (fun _ hk => hk.elim) ?aF ?aO ?aB ?aS ?aL ?_; (case aP => exact rfl); (case aB => exact bx); (case aF => exact (fun _ _ => trivial)); (case aO => exact (by (with_reducible repeat (first | apply Kd.R_alloc | apply Kd.R_drewN | apply Kd.R_drew)); exact Kd.R_mono (rf24 gb319 ((rd_T28 l0 x11_1).f0) (Kd.R_types HO_10.out BK319.out (by decide)) (fun _ hk => hk.2)) (fun _ hk => trivial))); (case aS => exact (below_size bx)); (case aL => have := LMc10.out; omega); intro v322 w13 ho hb hg hat; rw [← Ny321.out] at ho; have n0_ := Aside0.mk (blk_grown (g := gb319) (o := .cells #[.string ((rd_T28 l0 x11_1).f0.f0), .string ((rd_T28 l0 x11_1).f0.f1), .string ((rd_T28 l0 x11_1).f0.f2), .string ((rd_T28 l0 x11_1).f0.f3), .int .i64 ((rd_T28 l0 x11_1).f0.f4)] 24 (0, 0)) (bp24 BK319 ((rd_T28 l0 x11_1).f0)) hg (Kd.R_ne HO_10.out BK319.out (by decide))); have n1_ := Aside0.mk (hb); have n2_ := Aside0.mk (ho); clear BK319; clear HB; clear HO_10; have BK319 := n0_; have HB := n1_; have HO323 := n2_; clear n0_ n1_ n2_; clear ho hb hg hat))
         go_roundg k1
         case measure => have := HK1.out; omega
         case rel => exact ⟨(y321), (wrap64 (x11_1 + 1)), rs_, H', ⟨by have := HK1.out; omega⟩, ⟨kr HO323⟩, ⟨bx⟩⟩
        ·rw [if_neg c10] at H
         exact absurd H (by simp)
       ·rw [if_neg c9] at H
        have c9b0 : (a3.toList == ([] : List UInt8)) = false := beq_eq_false_iff_ne.mpr c9
        have c9b1 : (a3.toList != ([] : List UInt8)) = true := bne_iff_ne.mpr c9
        by_cases c14 : ((rd_T28 l0 x11_1).f0.f2).toList = a3.toList
        ·rw [if_pos c14] at H
         have c14b0 : (((rd_T28 l0 x11_1).f0.f2).toList == a3.toList) = true := beq_iff_eq.mpr c14
         have c14b1 : (((rd_T28 l0 x11_1).f0.f2).toList != a3.toList) = false := bne_eq_false_iff_eq.mpr c14
         clear c14
         by_cases c15 : x10_1.length < 17592186044416
         ·rw [if_pos c15] at H; have LMc15 := Aside0.mk c15; clear c15
          obtain ⟨y325, hy325⟩ : ∃ y_ : List Int, y_ = (x10_1 ++ [(rd_T28 l0 x11_1).f1]) := ⟨_, rfl⟩
          replace H : (comptrollerref09_Sum.l0 k1 l0 a1 a2 a3 y325 (wrap64 (x11_1 + 1))) = some (r1, r2) := rh hy325 H
          have Ny325 := Aside0.mk hy325; clear hy325
          have H' := Aside0.mk H
          clear H
          have p318 : 0 ≤ (x11_1 : Int) := of_decide_eq_true as_
          have q318 : x11_1 < (l0.length : Int) := of_decide_eq_true as_
          obtain ⟨ad318, e318, hx318_0, hx318_1, hx318_2, hx318_3, hx318_4, hx318_5⟩ := at_T28 HR0.out x11_1 p318 q318
          cases e318; replace hx318_0 := cb HB hx318_0; replace hx318_1 := cb HB hx318_1; replace hx318_2 := cb HB hx318_2; replace hx318_3 := cb HB hx318_3; replace hx318_4 := cb HB hx318_4; replace hx318_5 := cb HB hx318_5; replace p318 := eq_true p318; replace q318 := eq_true q318
          go_wp2_with (first | ((with_reducible refine gate_dst (N := 12) rfl ?_); refine box_event ?hg (N := 12) ?hd (cs := #[.string (⟨#[]⟩ : ByteArray), .string (⟨#[]⟩ : ByteArray), .string (⟨#[]⟩ : ByteArray), .string (⟨#[]⟩ : ByteArray), .int .i64 0]) (t := 24) ?hr ?_; (case hd => rfl); (case hg => rfl); (case hr => first | (go_simp; done) | (go_simp; rfl)); intro gb319 hg w16 hbox hb; have n0_ := Aside0.mk (Kd.R_below (kr HO_10) hb); have n1_ := Aside0.mk (below_step bw hb); have n2_ := Aside0.mk (hbox); have n3_ := Aside0.mk ((by rw [hg]; exact (below_size bw) : w.heap.size ≤ gb319)); have n4_ := Aside0.mk ((by rw [hg]; exact (below_size bw) : w.heap.size ≤ gb319)); clear HO_10; clear HB; have HO_10 := n0_; have HB := n1_; have BK319 := n2_; have GW319 := n3_; have GE319 := n4_; clear n0_ n1_ n2_ n3_ n4_; clear hb hbox hg; obtain ⟨hcz17_0, hcz17_1, hcz17_2, hcz17_3, hcz17_4⟩ := bc5 BK319.out; have hfz17_0 := blk_frozen BK319.out 0; have hfz17_1 := blk_frozen BK319.out 1; have hfz17_2 := blk_frozen BK319.out 2; have hfz17_3 := blk_frozen BK319.out 3; have hfz17_4 := blk_frozen BK319.out 4; have p324 : 0 ≤ (x11_1 : Int) := of_decide_eq_true as_; have q324 : x11_1 < (l0.length : Int) := of_decide_eq_true as_; obtain ⟨ad324, e324, hx324_0, hx324_1, hx324_2, hx324_3, hx324_4, hx324_5⟩ := at_T28 HR0.out x11_1 p324 q324; obtain rfl : ad318 = ad324 := (by injection e324); have hn324_0 : ad318.block ≠ gb319 := Nat.ne_of_lt (Nat.lt_of_lt_of_le (by have := World.block_lt_of_cell? _ _ hx324_0; first | rwa [add_block] at this | exact this) GW319.out); replace hx324_0 := cb HB hx324_0; replace hx324_1 := cb HB hx324_1; replace hx324_2 := cb HB hx324_2; replace hx324_3 := cb HB hx324_3; replace hx324_4 := cb HB hx324_4; replace hx324_5 := cb HB hx324_5; replace hx324_0 := cf24 gb319 ((rd_T28 l0 x11_1).f0) hx324_0; replace hx324_1 := cf24 gb319 ((rd_T28 l0 x11_1).f0) hx324_1; replace hx324_2 := cf24 gb319 ((rd_T28 l0 x11_1).f0) hx324_2; replace hx324_3 := cf24 gb319 ((rd_T28 l0 x11_1).f0) hx324_3; replace hx324_4 := cf24 gb319 ((rd_T28 l0 x11_1).f0) hx324_4; replace hx324_5 := cf24 gb319 ((rd_T28 l0 x11_1).f0) hx324_5; clear hn324_0; replace p324 := eq_true p324; replace q324 := eq_true q324) | ((with_reducible refine gate_builtin (b := .append) (xs := #[.tmp 52, .tmp 58]) rfl ?_); at_builtin; refine Kd.R_append (Kd.int .i64) (w0 := w) w.heap.size rfl (.tmp 52) (.tmp 58) 62 2 (.int .i64 0) 8 rfl Try.underlying62 info2 rfl (by decide) (by omega) u10 x10_1 ((rd_T28 l0 x11_1).f1) [.int .i64 ((rd_T28 l0 x11_1).f1)] (fun _ => True) (fun _ => False) rfl (by first | (go_simp; done) | (go_simp; rfl)) ?aP (fun _ hk => hk.elim) ?aF ?aO ?aB ?aS ?aL ?_; (case aP => exact rfl); (case aB => exact bx); (case aF => exact (fun _ _ => trivial)); (case aO => exact (by (with_reducible repeat (first | apply Kd.R_alloc | apply Kd.R_drewN | apply Kd.R_drew)); exact Kd.R_mono (rf24 gb319 ((rd_T28 l0 x11_1).f0) (Kd.R_types HO_10.out BK319.out (by decide)) (fun _ hk => hk.2)) (fun _ hk => trivial))); (case aS => exact (below_size bx)); (case aL => have := LMc15.out; omega); intro v326 w18 ho hb hg hat; rw [← Ny325.out] at ho; have n0_ := Aside0.mk (blk_grown (g := gb319) (o := .cells #[.string ((rd_T28 l0 x11_1).f0.f0), .string ((rd_T28 l0 x11_1).f0.f1), .string ((rd_T28 l0 x11_1).f0.f2), .string ((rd_T28 l0 x11_1).f0.f3), .int .i64 ((rd_T28 l0 x11_1).f0.f4)] 24 (0, 0)) (bp24 BK319 ((rd_T28 l0 x11_1).f0)) hg (Kd.R_ne HO_10.out BK319.out (by decide))); have n1_ := Aside0.mk (hb); have n2_ := Aside0.mk (ho); clear BK319; clear HB; clear HO_10; have BK319 := n0_; have HB := n1_; have HO327 := n2_; clear n0_ n1_ n2_; clear ho hb hg hat))
          go_roundg k1
          case measure => have := HK1.out; omega
          case rel => exact ⟨(y325), (wrap64 (x11_1 + 1)), rs_, H', ⟨by have := HK1.out; omega⟩, ⟨kr HO327⟩, ⟨bx⟩⟩
         ·rw [if_neg c15] at H
          exact absurd H (by simp)
        ·rw [if_neg c14] at H
         have c14b0 : (((rd_T28 l0 x11_1).f0.f2).toList == a3.toList) = false := beq_eq_false_iff_ne.mpr c14
         have c14b1 : (((rd_T28 l0 x11_1).f0.f2).toList != a3.toList) = true := bne_iff_ne.mpr c14
         have H' := Aside0.mk H
         clear H
         have p318 : 0 ≤ (x11_1 : Int) := of_decide_eq_true as_
         have q318 : x11_1 < (l0.length : Int) := of_decide_eq_true as_
         obtain ⟨ad318, e318, hx318_0, hx318_1, hx318_2, hx318_3, hx318_4, hx318_5⟩ := at_T28 HR0.out x11_1 p318 q318
         cases e318; replace hx318_0 := cb HB hx318_0; replace hx318_1 := cb HB hx318_1; replace hx318_2 := cb HB hx318_2; replace hx318_3 := cb HB hx318_3; replace hx318_4 := cb HB hx318_4; replace hx318_5 := cb HB hx318_5; replace p318 := eq_true p318; replace q318 := eq_true q318
         go_wp2_with (first | ((with_reducible refine gate_dst (N := 12) rfl ?_); refine box_event ?hg (N := 12) ?hd (cs := #[.string (⟨#[]⟩ : ByteArray), .string (⟨#[]⟩ : ByteArray), .string (⟨#[]⟩ : ByteArray), .string (⟨#[]⟩ : ByteArray), .int .i64 0]) (t := 24) ?hr ?_; (case hd => rfl); (case hg => rfl); (case hr => first | (go_simp; done) | (go_simp; rfl)); intro gb319 hg w19 hbox hb; have n0_ := Aside0.mk (Kd.R_below (kr HO_10) hb); have n1_ := Aside0.mk (below_step bw hb); have n2_ := Aside0.mk (hbox); have n3_ := Aside0.mk ((by rw [hg]; exact (below_size bw) : w.heap.size ≤ gb319)); have n4_ := Aside0.mk ((by rw [hg]; exact (below_size bw) : w.heap.size ≤ gb319)); clear HO_10; clear HB; have HO_10 := n0_; have HB := n1_; have BK319 := n2_; have GW319 := n3_; have GE319 := n4_; clear n0_ n1_ n2_ n3_ n4_; clear hb hbox hg; obtain ⟨hcz20_0, hcz20_1, hcz20_2, hcz20_3, hcz20_4⟩ := bc5 BK319.out; have hfz20_0 := blk_frozen BK319.out 0; have hfz20_1 := blk_frozen BK319.out 1; have hfz20_2 := blk_frozen BK319.out 2; have hfz20_3 := blk_frozen BK319.out 3; have hfz20_4 := blk_frozen BK319.out 4))
         go_roundg k1
         case measure => have := HK1.out; omega
         case rel => exact ⟨(x10_1), (wrap64 (x11_1 + 1)), rs_, H', ⟨by have := HK1.out; omega⟩, ⟨by (with_reducible repeat (first | apply Kd.R_alloc | apply Kd.R_drewN | apply Kd.R_drew)); exact Kd.R_mono (rf24 gb319 ((rd_T28 l0 x11_1).f0) (Kd.R_types HO_10.out BK319.out (by decide)) (fun _ hk => hk.2)) (fun _ hk => trivial)⟩, ⟨bx⟩⟩
      ·rw [if_neg c8] at H
       have c8b0 : (a2.toList == ([] : List UInt8)) = false := beq_eq_false_iff_ne.mpr c8
       have c8b1 : (a2.toList != ([] : List UInt8)) = true := bne_iff_ne.mpr c8
       by_cases c21 : ((rd_T28 l0 x11_1).f0.f1).toList = a2.toList
       ·rw [if_pos c21] at H
        have c21b0 : (((rd_T28 l0 x11_1).f0.f1).toList == a2.toList) = true := beq_iff_eq.mpr c21
        have c21b1 : (((rd_T28 l0 x11_1).f0.f1).toList != a2.toList) = false := bne_eq_false_iff_eq.mpr c21
        clear c21
        by_cases c22 : a3.toList = ([] : List UInt8)
        ·rw [if_pos c22] at H
         have c22b0 : (a3.toList == ([] : List UInt8)) = true := beq_iff_eq.mpr c22
         have c22b1 : (a3.toList != ([] : List UInt8)) = false := bne_eq_false_iff_eq.mpr c22
         clear c22
         by_cases c23 : x10_1.length < 17592186044416
         ·rw [if_pos c23] at H; have LMc23 := Aside0.mk c23; clear c23
          obtain ⟨y329, hy329⟩ : ∃ y_ : List Int, y_ = (x10_1 ++ [(rd_T28 l0 x11_1).f1]) := ⟨_, rfl⟩
          replace H : (comptrollerref09_Sum.l0 k1 l0 a1 a2 a3 y329 (wrap64 (x11_1 + 1))) = some (r1, r2) := rh hy329 H
          have Ny329 := Aside0.mk hy329; clear hy329
          have H' := Aside0.mk H
          clear H
          have p318 : 0 ≤ (x11_1 : Int) := of_decide_eq_true as_
          have q318 : x11_1 < (l0.length : Int) := of_decide_eq_true as_
          obtain ⟨ad318, e318, hx318_0, hx318_1, hx318_2, hx318_3, hx318_4, hx318_5⟩ := at_T28 HR0.out x11_1 p318 q318
          cases e318; replace hx318_0 := cb HB hx318_0; replace hx318_1 := cb HB hx318_1; replace hx318_2 := cb HB hx318_2; replace hx318_3 := cb HB hx318_3; replace hx318_4 := cb HB hx318_4; replace hx318_5 := cb HB hx318_5; replace p318 := eq_true p318; replace q318 := eq_true q318
          go_wp2_with (first | ((with_reducible refine gate_dst (N := 12) rfl ?_); refine box_event ?hg (N := 12) ?hd (cs := #[.string (⟨#[]⟩ : ByteArray), .string (⟨#[]⟩ : ByteArray), .string (⟨#[]⟩ : ByteArray), .string (⟨#[]⟩ : ByteArray), .int .i64 0]) (t := 24) ?hr ?_; (case hd => rfl); (case hg => rfl); (case hr => first | (go_simp; done) | (go_simp; rfl)); intro gb319 hg w24 hbox hb; have n0_ := Aside0.mk (Kd.R_below (kr HO_10) hb); have n1_ := Aside0.mk (below_step bw hb); have n2_ := Aside0.mk (hbox); have n3_ := Aside0.mk ((by rw [hg]; exact (below_size bw) : w.heap.size ≤ gb319)); have n4_ := Aside0.mk ((by rw [hg]; exact (below_size bw) : w.heap.size ≤ gb319)); clear HO_10; clear HB; have HO_10 := n0_; have HB := n1_; have BK319 := n2_; have GW319 := n3_; have GE319 := n4_; clear n0_ n1_ n2_ n3_ n4_; clear hb hbox hg; obtain ⟨hcz25_0, hcz25_1, hcz25_2, hcz25_3, hcz25_4⟩ := bc5 BK319.out; have hfz25_0 := blk_frozen BK319.out 0; have hfz25_1 := blk_frozen BK319.out 1; have hfz25_2 := blk_frozen BK319.out 2; have hfz25_3 := blk_frozen BK319.out 3; have hfz25_4 := blk_frozen BK319.out 4; have p328 : 0 ≤ (x11_1 : Int) := of_decide_eq_true as_; have q328 : x11_1 < (l0.length : Int) := of_decide_eq_true as_; obtain ⟨ad328, e328, hx328_0, hx328_1, hx328_2, hx328_3, hx328_4, hx328_5⟩ := at_T28 HR0.out x11_1 p328 q328; obtain rfl : ad318 = ad328 := (by injection e328); have hn328_0 : ad318.block ≠ gb319 := Nat.ne_of_lt (Nat.lt_of_lt_of_le (by have := World.block_lt_of_cell? _ _ hx328_0; first | rwa [add_block] at this | exact this) GW319.out); replace hx328_0 := cb HB hx328_0; replace hx328_1 := cb HB hx328_1; replace hx328_2 := cb HB hx328_2; replace hx328_3 := cb HB hx328_3; replace hx328_4 := cb HB hx328_4; replace hx328_5 := cb HB hx328_5; replace hx328_0 := cf24 gb319 ((rd_T28 l0 x11_1).f0) hx328_0; replace hx328_1 := cf24 gb319 ((rd_T28 l0 x11_1).f0) hx328_1; replace hx328_2 := cf24 gb319 ((rd_T28 l0 x11_1).f0) hx328_2; replace hx328_3 := cf24 gb319 ((rd_T28 l0 x11_1).f0) hx328_3; replace hx328_4 := cf24 gb319 ((rd_T28 l0 x11_1).f0) hx328_4; replace hx328_5 := cf24 gb319 ((rd_T28 l0 x11_1).f0) hx328_5; clear hn328_0; replace p328 := eq_true p328; replace q328 := eq_true q328) | ((with_reducible refine gate_builtin (b := .append) (xs := #[.tmp 52, .tmp 58]) rfl ?_); at_builtin; refine Kd.R_append (Kd.int .i64) (w0 := w) w.heap.size rfl (.tmp 52) (.tmp 58) 62 2 (.int .i64 0) 8 rfl Try.underlying62 info2 rfl (by decide) (by omega) u10 x10_1 ((rd_T28 l0 x11_1).f1) [.int .i64 ((rd_T28 l0 x11_1).f1)] (fun _ => True) (fun _ => False) rfl (by first | (go_simp; done) | (go_simp; rfl)) ?aP (fun _ hk => hk.elim) ?aF ?aO ?aB ?aS ?aL ?_; (case aP => exact rfl); (case aB => exact bx); (case aF => exact (fun _ _ => trivial)); (case aO => exact (by (with_reducible repeat (first | apply Kd.R_alloc | apply Kd.R_drewN | apply Kd.R_drew)); exact Kd.R_mono (rf24 gb319 ((rd_T28 l0 x11_1).f0) (Kd.R_types HO_10.out BK319.out (by decide)) (fun _ hk => hk.2)) (fun _ hk => trivial))); (case aS => exact (below_size bx)); (case aL => have := LMc23.out; omega); intro v330 w26 ho hb hg hat; rw [← Ny329.out] at ho; have n0_ := Aside0.mk (blk_grown (g := gb319) (o := .cells #[.string ((rd_T28 l0 x11_1).f0.f0), .string ((rd_T28 l0 x11_1).f0.f1), .string ((rd_T28 l0 x11_1).f0.f2), .string ((rd_T28 l0 x11_1).f0.f3), .int .i64 ((rd_T28 l0 x11_1).f0.f4)] 24 (0, 0)) (bp24 BK319 ((rd_T28 l0 x11_1).f0)) hg (Kd.R_ne HO_10.out BK319.out (by decide))); have n1_ := Aside0.mk (hb); have n2_ := Aside0.mk (ho); clear BK319; clear HB; clear HO_10; have BK319 := n0_; have HB := n1_; have HO331 := n2_; clear n0_ n1_ n2_; clear ho hb hg hat))
          go_roundg k1
          case measure => have := HK1.out; omega
          case rel => exact ⟨(y329), (wrap64 (x11_1 + 1)), rs_, H', ⟨by have := HK1.out; omega⟩, ⟨kr HO331⟩, ⟨bx⟩⟩
         ·rw [if_neg c23] at H
          exact absurd H (by simp)
        ·rw [if_neg c22] at H
         have c22b0 : (a3.toList == ([] : List UInt8)) = false := beq_eq_false_iff_ne.mpr c22
         have c22b1 : (a3.toList != ([] : List UInt8)) = true := bne_iff_ne.mpr c22
         by_cases c27 : ((rd_T28 l0 x11_1).f0.f2).toList = a3.toList
         ·rw [if_pos c27] at H
          have c27b0 : (((rd_T28 l0 x11_1).f0.f2).toList == a3.toList) = true := beq_iff_eq.mpr c27
          have c27b1 : (((rd_T28 l0 x11_1).f0.f2).toList != a3.toList) = false := bne_eq_false_iff_eq.mpr c27
          clear c27
          by_cases c28 : x10_1.length < 17592186044416
          ·rw [if_pos c28] at H; have LMc28 := Aside0.mk c28; clear c28
           obtain ⟨y333, hy333⟩ : ∃ y_ : List Int, y_ = (x10_1 ++ [(rd_T28 l0 x11_1).f1]) := ⟨_, rfl⟩
           replace H : (comptrollerref09_Sum.l0 k1 l0 a1 a2 a3 y333 (wrap64 (x11_1 + 1))) = some (r1, r2) := rh hy333 H
           have Ny333 := Aside0.mk hy333; clear hy333
           have H' := Aside0.mk H
           clear H
           have p318 : 0 ≤ (x11_1 : Int) := of_decide_eq_true as_
           have q318 : x11_1 < (l0.length : Int) := of_decide_eq_true as_
           obtain ⟨ad318, e318, hx318_0, hx318_1, hx318_2, hx318_3, hx318_4, hx318_5⟩ := at_T28 HR0.out x11_1 p318 q318
           cases e318; replace hx318_0 := cb HB hx318_0; replace hx318_1 := cb HB hx318_1; replace hx318_2 := cb HB hx318_2; replace hx318_3 := cb HB hx318_3; replace hx318_4 := cb HB hx318_4; replace hx318_5 := cb HB hx318_5; replace p318 := eq_true p318; replace q318 := eq_true q318
           go_wp2_with (first | ((with_reducible refine gate_dst (N := 12) rfl ?_); refine box_event ?hg (N := 12) ?hd (cs := #[.string (⟨#[]⟩ : ByteArray), .string (⟨#[]⟩ : ByteArray), .string (⟨#[]⟩ : ByteArray), .string (⟨#[]⟩ : ByteArray), .int .i64 0]) (t := 24) ?hr ?_; (case hd => rfl); (case hg => rfl); (case hr => first | (go_simp; done) | (go_simp; rfl)); intro gb319 hg w29 hbox hb; have n0_ := Aside0.mk (Kd.R_below (kr HO_10) hb); have n1_ := Aside0.mk (below_step bw hb); have n2_ := Aside0.mk (hbox); have n3_ := Aside0.mk ((by rw [hg]; exact (below_size bw) : w.heap.size ≤ gb319)); have n4_ := Aside0.mk ((by rw [hg]; exact (below_size bw) : w.heap.size ≤ gb319)); clear HO_10; clear HB; have HO_10 := n0_; have HB := n1_; have BK319 := n2_; have GW319 := n3_; have GE319 := n4_; clear n0_ n1_ n2_ n3_ n4_; clear hb hbox hg; obtain ⟨hcz30_0, hcz30_1, hcz30_2, hcz30_3, hcz30_4⟩ := bc5 BK319.out; have hfz30_0 := blk_frozen BK319.out 0; have hfz30_1 := blk_frozen BK319.out 1; have hfz30_2 := blk_frozen BK319.out 2; have hfz30_3 := blk_frozen BK319.out 3; have hfz30_4 := blk_frozen BK319.out 4; have p332 : 0 ≤ (x11_1 : Int) := of_decide_eq_true as_; have q332 : x11_1 < (l0.length : Int) := of_decide_eq_true as_; obtain ⟨ad332, e332, hx332_0, hx332_1, hx332_2, hx332_3, hx332_4, hx332_5⟩ := at_T28 HR0.out x11_1 p332 q332; obtain rfl : ad318 = ad332 := (by injection e332); have hn332_0 : ad318.block ≠ gb319 := Nat.ne_of_lt (Nat.lt_of_lt_of_le (by have := World.block_lt_of_cell? _ _ hx332_0; first | rwa [add_block] at this | exact this) GW319.out); replace hx332_0 := cb HB hx332_0; replace hx332_1 := cb HB hx332_1; replace hx332_2 := cb HB hx332_2; replace hx332_3 := cb HB hx332_3; replace hx332_4 := cb HB hx332_4; replace hx332_5 := cb HB hx332_5; replace hx332_0 := cf24 gb319 ((rd_T28 l0 x11_1).f0) hx332_0; replace hx332_1 := cf24 gb319 ((rd_T28 l0 x11_1).f0) hx332_1; replace hx332_2 := cf24 gb319 ((rd_T28 l0 x11_1).f0) hx332_2; replace hx332_3 := cf24 gb319 ((rd_T28 l0 x11_1).f0) hx332_3; replace hx332_4 := cf24 gb319 ((rd_T28 l0 x11_1).f0) hx332_4; replace hx332_5 := cf24 gb319 ((rd_T28 l0 x11_1).f0) hx332_5; clear hn332_0; replace p332 := eq_true p332; replace q332 := eq_true q332) | ((with_reducible refine gate_builtin (b := .append) (xs := #[.tmp 52, .tmp 58]) rfl ?_); at_builtin; refine Kd.R_append (Kd.int .i64) (w0 := w) w.heap.size rfl (.tmp 52) (.tmp 58) 62 2 (.int .i64 0) 8 rfl Try.underlying62 info2 rfl (by decide) (by omega) u10 x10_1 ((rd_T28 l0 x11_1).f1) [.int .i64 ((rd_T28 l0 x11_1).f1)] (fun _ => True) (fun _ => False) rfl (by first | (go_simp; done) | (go_simp; rfl)) ?aP (fun _ hk => hk.elim) ?aF ?aO ?aB ?aS ?aL ?_; (case aP => exact rfl); (case aB => exact bx); (case aF => exact (fun _ _ => trivial)); (case aO => exact (by (with_reducible repeat (first | apply Kd.R_alloc | apply Kd.R_drewN | apply Kd.R_drew)); exact Kd.R_mono (rf24 gb319 ((rd_T28 l0 x11_1).f0) (Kd.R_types HO_10.out BK319.out (by decide)) (fun _ hk => hk.2)) (fun _ hk => trivial))); (case aS => exact (below_size bx)); (case aL => have := LMc28.out; omega); intro v334 w31 ho hb hg hat; rw [← Ny333.out] at ho; have n0_ := Aside0.mk (blk_grown (g := gb319) (o := .cells #[.string ((rd_T28 l0 x11_1).f0.f0), .string ((rd_T28 l0 x11_1).f0.f1), .string ((rd_T28 l0 x11_1).f0.f2), .string ((rd_T28 l0 x11_1).f0.f3), .int .i64 ((rd_T28 l0 x11_1).f0.f4)] 24 (0, 0)) (bp24 BK319 ((rd_T28 l0 x11_1).f0)) hg (Kd.R_ne HO_10.out BK319.out (by decide))); have n1_ := Aside0.mk (hb); have n2_ := Aside0.mk (ho); clear BK319; clear HB; clear HO_10; have BK319 := n0_; have HB := n1_; have HO335 := n2_; clear n0_ n1_ n2_; clear ho hb hg hat))
           go_roundg k1
           case measure => have := HK1.out; omega
           case rel => exact ⟨(y333), (wrap64 (x11_1 + 1)), rs_, H', ⟨by have := HK1.out; omega⟩, ⟨kr HO335⟩, ⟨bx⟩⟩
          ·rw [if_neg c28] at H
           exact absurd H (by simp)
         ·rw [if_neg c27] at H
          have c27b0 : (((rd_T28 l0 x11_1).f0.f2).toList == a3.toList) = false := beq_eq_false_iff_ne.mpr c27
          have c27b1 : (((rd_T28 l0 x11_1).f0.f2).toList != a3.toList) = true := bne_iff_ne.mpr c27
          have H' := Aside0.mk H
          clear H
          have p318 : 0 ≤ (x11_1 : Int) := of_decide_eq_true as_
          have q318 : x11_1 < (l0.length : Int) := of_decide_eq_true as_
          obtain ⟨ad318, e318, hx318_0, hx318_1, hx318_2, hx318_3, hx318_4, hx318_5⟩ := at_T28 HR0.out x11_1 p318 q318
          cases e318; replace hx318_0 := cb HB hx318_0; replace hx318_1 := cb HB hx318_1; replace hx318_2 := cb HB hx318_2; replace hx318_3 := cb HB hx318_3; replace hx318_4 := cb HB hx318_4; replace hx318_5 := cb HB hx318_5; replace p318 := eq_true p318; replace q318 := eq_true q318
          go_wp2_with (first | ((with_reducible refine gate_dst (N := 12) rfl ?_); refine box_event ?hg (N := 12) ?hd (cs := #[.string (⟨#[]⟩ : ByteArray), .string (⟨#[]⟩ : ByteArray), .string (⟨#[]⟩ : ByteArray), .string (⟨#[]⟩ : ByteArray), .int .i64 0]) (t := 24) ?hr ?_; (case hd => rfl); (case hg => rfl); (case hr => first | (go_simp; done) | (go_simp; rfl)); intro gb319 hg w32 hbox hb; have n0_ := Aside0.mk (Kd.R_below (kr HO_10) hb); have n1_ := Aside0.mk (below_step bw hb); have n2_ := Aside0.mk (hbox); have n3_ := Aside0.mk ((by rw [hg]; exact (below_size bw) : w.heap.size ≤ gb319)); have n4_ := Aside0.mk ((by rw [hg]; exact (below_size bw) : w.heap.size ≤ gb319)); clear HO_10; clear HB; have HO_10 := n0_; have HB := n1_; have BK319 := n2_; have GW319 := n3_; have GE319 := n4_; clear n0_ n1_ n2_ n3_ n4_; clear hb hbox hg; obtain ⟨hcz33_0, hcz33_1, hcz33_2, hcz33_3, hcz33_4⟩ := bc5 BK319.out; have hfz33_0 := blk_frozen BK319.out 0; have hfz33_1 := blk_frozen BK319.out 1; have hfz33_2 := blk_frozen BK319.out 2; have hfz33_3 := blk_frozen BK319.out 3; have hfz33_4 := blk_frozen BK319.out 4))
          go_roundg k1
          case measure => have := HK1.out; omega
          case rel => exact ⟨(x10_1), (wrap64 (x11_1 + 1)), rs_, H', ⟨by have := HK1.out; omega⟩, ⟨by (with_reducible repeat (first | apply Kd.R_alloc | apply Kd.R_drewN | apply Kd.R_drew)); exact Kd.R_mono (rf24 gb319 ((rd_T28 l0 x11_1).f0) (Kd.R_types HO_10.out BK319.out (by decide)) (fun _ hk => hk.2)) (fun _ hk => trivial)⟩, ⟨bx⟩⟩
       ·rw [if_neg c21] at H
        have c21b0 : (((rd_T28 l0 x11_1).f0.f1).toList == a2.toList) = false := beq_eq_false_iff_ne.mpr c21
        have c21b1 : (((rd_T28 l0 x11_1).f0.f1).toList != a2.toList) = true := bne_iff_ne.mpr c21
        have H' := Aside0.mk H
        clear H
        have p318 : 0 ≤ (x11_1 : Int) := of_decide_eq_true as_
        have q318 : x11_1 < (l0.length : Int) := of_decide_eq_true as_
        obtain ⟨ad318, e318, hx318_0, hx318_1, hx318_2, hx318_3, hx318_4, hx318_5⟩ := at_T28 HR0.out x11_1 p318 q318
        cases e318; replace hx318_0 := cb HB hx318_0; replace hx318_1 := cb HB hx318_1; replace hx318_2 := cb HB hx318_2; replace hx318_3 := cb HB hx318_3; replace hx318_4 := cb HB hx318_4; replace hx318_5 := cb HB hx318_5; replace p318 := eq_true p318; replace q318 := eq_true q318
        go_wp2_with (first | ((with_reducible refine gate_dst (N := 12) rfl ?_); refine box_event ?hg (N := 12) ?hd (cs := #[.string (⟨#[]⟩ : ByteArray), .string (⟨#[]⟩ : ByteArray), .string (⟨#[]⟩ : ByteArray), .string (⟨#[]⟩ : ByteArray), .int .i64 0]) (t := 24) ?hr ?_; (case hd => rfl); (case hg => rfl); (case hr => first | (go_simp; done) | (go_simp; rfl)); intro gb319 hg w34 hbox hb; have n0_ := Aside0.mk (Kd.R_below (kr HO_10) hb); have n1_ := Aside0.mk (below_step bw hb); have n2_ := Aside0.mk (hbox); have n3_ := Aside0.mk ((by rw [hg]; exact (below_size bw) : w.heap.size ≤ gb319)); have n4_ := Aside0.mk ((by rw [hg]; exact (below_size bw) : w.heap.size ≤ gb319)); clear HO_10; clear HB; have HO_10 := n0_; have HB := n1_; have BK319 := n2_; have GW319 := n3_; have GE319 := n4_; clear n0_ n1_ n2_ n3_ n4_; clear hb hbox hg; obtain ⟨hcz35_0, hcz35_1, hcz35_2, hcz35_3, hcz35_4⟩ := bc5 BK319.out; have hfz35_0 := blk_frozen BK319.out 0; have hfz35_1 := blk_frozen BK319.out 1; have hfz35_2 := blk_frozen BK319.out 2; have hfz35_3 := blk_frozen BK319.out 3; have hfz35_4 := blk_frozen BK319.out 4))
        go_roundg k1
        case measure => have := HK1.out; omega
        case rel => exact ⟨(x10_1), (wrap64 (x11_1 + 1)), rs_, H', ⟨by have := HK1.out; omega⟩, ⟨by (with_reducible repeat (first | apply Kd.R_alloc | apply Kd.R_drewN | apply Kd.R_drew)); exact Kd.R_mono (rf24 gb319 ((rd_T28 l0 x11_1).f0) (Kd.R_types HO_10.out BK319.out (by decide)) (fun _ hk => hk.2)) (fun _ hk => trivial)⟩, ⟨bx⟩⟩
     ·rw [if_neg c7] at H
      have c7b0 : (a1.toList == ([] : List UInt8)) = false := beq_eq_false_iff_ne.mpr c7
      have c7b1 : (a1.toList != ([] : List UInt8)) = true := bne_iff_ne.mpr c7
      by_cases c36 : ((rd_T28 l0 x11_1).f0.f0).toList = a1.toList
      ·rw [if_pos c36] at H
       have c36b0 : (((rd_T28 l0 x11_1).f0.f0).toList == a1.toList) = true := beq_iff_eq.mpr c36
       have c36b1 : (((rd_T28 l0 x11_1).f0.f0).toList != a1.toList) = false := bne_eq_false_iff_eq.mpr c36
       clear c36
       by_cases c37 : a2.toList = ([] : List UInt8)
       ·rw [if_pos c37] at H
        have c37b0 : (a2.toList == ([] : List UInt8)) = true := beq_iff_eq.mpr c37
        have c37b1 : (a2.toList != ([] : List UInt8)) = false := bne_eq_false_iff_eq.mpr c37
        clear c37
        by_cases c38 : a3.toList = ([] : List UInt8)
        ·rw [if_pos c38] at H
         have c38b0 : (a3.toList == ([] : List UInt8)) = true := beq_iff_eq.mpr c38
         have c38b1 : (a3.toList != ([] : List UInt8)) = false := bne_eq_false_iff_eq.mpr c38
         clear c38
         by_cases c39 : x10_1.length < 17592186044416
         ·rw [if_pos c39] at H; have LMc39 := Aside0.mk c39; clear c39
          obtain ⟨y337, hy337⟩ : ∃ y_ : List Int, y_ = (x10_1 ++ [(rd_T28 l0 x11_1).f1]) := ⟨_, rfl⟩
          replace H : (comptrollerref09_Sum.l0 k1 l0 a1 a2 a3 y337 (wrap64 (x11_1 + 1))) = some (r1, r2) := rh hy337 H
          have Ny337 := Aside0.mk hy337; clear hy337
          have H' := Aside0.mk H
          clear H
          have p318 : 0 ≤ (x11_1 : Int) := of_decide_eq_true as_
          have q318 : x11_1 < (l0.length : Int) := of_decide_eq_true as_
          obtain ⟨ad318, e318, hx318_0, hx318_1, hx318_2, hx318_3, hx318_4, hx318_5⟩ := at_T28 HR0.out x11_1 p318 q318
          cases e318; replace hx318_0 := cb HB hx318_0; replace hx318_1 := cb HB hx318_1; replace hx318_2 := cb HB hx318_2; replace hx318_3 := cb HB hx318_3; replace hx318_4 := cb HB hx318_4; replace hx318_5 := cb HB hx318_5; replace p318 := eq_true p318; replace q318 := eq_true q318
          go_wp2_with (first | ((with_reducible refine gate_dst (N := 12) rfl ?_); refine box_event ?hg (N := 12) ?hd (cs := #[.string (⟨#[]⟩ : ByteArray), .string (⟨#[]⟩ : ByteArray), .string (⟨#[]⟩ : ByteArray), .string (⟨#[]⟩ : ByteArray), .int .i64 0]) (t := 24) ?hr ?_; (case hd => rfl); (case hg => rfl); (case hr => first | (go_simp; done) | (go_simp; rfl)); intro gb319 hg w40 hbox hb; have n0_ := Aside0.mk (Kd.R_below (kr HO_10) hb); have n1_ := Aside0.mk (below_step bw hb); have n2_ := Aside0.mk (hbox); have n3_ := Aside0.mk ((by rw [hg]; exact (below_size bw) : w.heap.size ≤ gb319)); have n4_ := Aside0.mk ((by rw [hg]; exact (below_size bw) : w.heap.size ≤ gb319)); clear HO_10; clear HB; have HO_10 := n0_; have HB := n1_; have BK319 := n2_; have GW319 := n3_; have GE319 := n4_; clear n0_ n1_ n2_ n3_ n4_; clear hb hbox hg; obtain ⟨hcz41_0, hcz41_1, hcz41_2, hcz41_3, hcz41_4⟩ := bc5 BK319.out; have hfz41_0 := blk_frozen BK319.out 0; have hfz41_1 := blk_frozen BK319.out 1; have hfz41_2 := blk_frozen BK319.out 2; have hfz41_3 := blk_frozen BK319.out 3; have hfz41_4 := blk_frozen BK319.out 4; have p336 : 0 ≤ (x11_1 : Int) := of_decide_eq_true as_; have q336 : x11_1 < (l0.length : Int) := of_decide_eq_true as_; obtain ⟨ad336, e336, hx336_0, hx336_1, hx336_2, hx336_3, hx336_4, hx336_5⟩ := at_T28 HR0.out x11_1 p336 q336; obtain rfl : ad318 = ad336 := (by injection e336); have hn336_0 : ad318.block ≠ gb319 := Nat.ne_of_lt (Nat.lt_of_lt_of_le (by have := World.block_lt_of_cell? _ _ hx336_0; first | rwa [add_block] at this | exact this) GW319.out); replace hx336_0 := cb HB hx336_0; replace hx336_1 := cb HB hx336_1; replace hx336_2 := cb HB hx336_2; replace hx336_3 := cb HB hx336_3; replace hx336_4 := cb HB hx336_4; replace hx336_5 := cb HB hx336_5; replace hx336_0 := cf24 gb319 ((rd_T28 l0 x11_1).f0) hx336_0; replace hx336_1 := cf24 gb319 ((rd_T28 l0 x11_1).f0) hx336_1; replace hx336_2 := cf24 gb319 ((rd_T28 l0 x11_1).f0) hx336_2; replace hx336_3 := cf24 gb319 ((rd_T28 l0 x11_1).f0) hx336_3; replace hx336_4 := cf24 gb319 ((rd_T28 l0 x11_1).f0) hx336_4; replace hx336_5 := cf24 gb319 ((rd_T28 l0 x11_1).f0) hx336_5; clear hn336_0; replace p336 := eq_true p336; replace q336 := eq_true q336) | ((with_reducible refine gate_builtin (b := .append) (xs := #[.tmp 52, .tmp 58]) rfl ?_); at_builtin; refine Kd.R_append (Kd.int .i64) (w0 := w) w.heap.size rfl (.tmp 52) (.tmp 58) 62 2 (.int .i64 0) 8 rfl Try.underlying62 info2 rfl (by decide) (by omega) u10 x10_1 ((rd_T28 l0 x11_1).f1) [.int .i64 ((rd_T28 l0 x11_1).f1)] (fun _ => True) (fun _ => False) rfl (by first | (go_simp; done) | (go_simp; rfl)) ?aP (fun _ hk => hk.elim) ?aF ?aO ?aB ?aS ?aL ?_; (case aP => exact rfl); (case aB => exact bx); (case aF => exact (fun _ _ => trivial)); (case aO => exact (by (with_reducible repeat (first | apply Kd.R_alloc | apply Kd.R_drewN | apply Kd.R_drew)); exact Kd.R_mono (rf24 gb319 ((rd_T28 l0 x11_1).f0) (Kd.R_types HO_10.out BK319.out (by decide)) (fun _ hk => hk.2)) (fun _ hk => trivial))); (case aS => exact (below_size bx)); (case aL => have := LMc39.out; omega); intro v338 w42 ho hb hg hat; rw [← Ny337.out] at ho; have n0_ := Aside0.mk (blk_grown (g := gb319) (o := .cells #[.string ((rd_T28 l0 x11_1).f0.f0), .string ((rd_T28 l0 x11_1).f0.f1), .string ((rd_T28 l0 x11_1).f0.f2), .string ((rd_T28 l0 x11_1).f0.f3), .int .i64 ((rd_T28 l0 x11_1).f0.f4)] 24 (0, 0)) (bp24 BK319 ((rd_T28 l0 x11_1).f0)) hg (Kd.R_ne HO_10.out BK319.out (by decide))); have n1_ := Aside0.mk (hb); have n2_ := Aside0.mk (ho); clear BK319; clear HB; clear HO_10; have BK319 := n0_; have HB := n1_; have HO339 := n2_; clear n0_ n1_ n2_; clear ho hb hg hat))
          go_roundg k1
          case measure => have := HK1.out; omega
          case rel => exact ⟨(y337), (wrap64 (x11_1 + 1)), rs_, H', ⟨by have := HK1.out; omega⟩, ⟨kr HO339⟩, ⟨bx⟩⟩
         ·rw [if_neg c39] at H
          exact absurd H (by simp)
        ·rw [if_neg c38] at H
         have c38b0 : (a3.toList == ([] : List UInt8)) = false := beq_eq_false_iff_ne.mpr c38
         have c38b1 : (a3.toList != ([] : List UInt8)) = true := bne_iff_ne.mpr c38
         by_cases c43 : ((rd_T28 l0 x11_1).f0.f2).toList = a3.toList
         ·rw [if_pos c43] at H
          have c43b0 : (((rd_T28 l0 x11_1).f0.f2).toList == a3.toList) = true := beq_iff_eq.mpr c43
          have c43b1 : (((rd_T28 l0 x11_1).f0.f2).toList != a3.toList) = false := bne_eq_false_iff_eq.mpr c43
          clear c43
          by_cases c44 : x10_1.length < 17592186044416
          ·rw [if_pos c44] at H; have LMc44 := Aside0.mk c44; clear c44
           obtain ⟨y341, hy341⟩ : ∃ y_ : List Int, y_ = (x10_1 ++ [(rd_T28 l0 x11_1).f1]) := ⟨_, rfl⟩
           replace H : (comptrollerref09_Sum.l0 k1 l0 a1 a2 a3 y341 (wrap64 (x11_1 + 1))) = some (r1, r2) := rh hy341 H
           have Ny341 := Aside0.mk hy341; clear hy341
           have H' := Aside0.mk H
           clear H
           have p318 : 0 ≤ (x11_1 : Int) := of_decide_eq_true as_
           have q318 : x11_1 < (l0.length : Int) := of_decide_eq_true as_
           obtain ⟨ad318, e318, hx318_0, hx318_1, hx318_2, hx318_3, hx318_4, hx318_5⟩ := at_T28 HR0.out x11_1 p318 q318
           cases e318; replace hx318_0 := cb HB hx318_0; replace hx318_1 := cb HB hx318_1; replace hx318_2 := cb HB hx318_2; replace hx318_3 := cb HB hx318_3; replace hx318_4 := cb HB hx318_4; replace hx318_5 := cb HB hx318_5; replace p318 := eq_true p318; replace q318 := eq_true q318
           go_wp2_with (first | ((with_reducible refine gate_dst (N := 12) rfl ?_); refine box_event ?hg (N := 12) ?hd (cs := #[.string (⟨#[]⟩ : ByteArray), .string (⟨#[]⟩ : ByteArray), .string (⟨#[]⟩ : ByteArray), .string (⟨#[]⟩ : ByteArray), .int .i64 0]) (t := 24) ?hr ?_; (case hd => rfl); (case hg => rfl); (case hr => first | (go_simp; done) | (go_simp; rfl)); intro gb319 hg w45 hbox hb; have n0_ := Aside0.mk (Kd.R_below (kr HO_10) hb); have n1_ := Aside0.mk (below_step bw hb); have n2_ := Aside0.mk (hbox); have n3_ := Aside0.mk ((by rw [hg]; exact (below_size bw) : w.heap.size ≤ gb319)); have n4_ := Aside0.mk ((by rw [hg]; exact (below_size bw) : w.heap.size ≤ gb319)); clear HO_10; clear HB; have HO_10 := n0_; have HB := n1_; have BK319 := n2_; have GW319 := n3_; have GE319 := n4_; clear n0_ n1_ n2_ n3_ n4_; clear hb hbox hg; obtain ⟨hcz46_0, hcz46_1, hcz46_2, hcz46_3, hcz46_4⟩ := bc5 BK319.out; have hfz46_0 := blk_frozen BK319.out 0; have hfz46_1 := blk_frozen BK319.out 1; have hfz46_2 := blk_frozen BK319.out 2; have hfz46_3 := blk_frozen BK319.out 3; have hfz46_4 := blk_frozen BK319.out 4; have p340 : 0 ≤ (x11_1 : Int) := of_decide_eq_true as_; have q340 : x11_1 < (l0.length : Int) := of_decide_eq_true as_; obtain ⟨ad340, e340, hx340_0, hx340_1, hx340_2, hx340_3, hx340_4, hx340_5⟩ := at_T28 HR0.out x11_1 p340 q340; obtain rfl : ad318 = ad340 := (by injection e340); have hn340_0 : ad318.block ≠ gb319 := Nat.ne_of_lt (Nat.lt_of_lt_of_le (by have := World.block_lt_of_cell? _ _ hx340_0; first | rwa [add_block] at this | exact this) GW319.out); replace hx340_0 := cb HB hx340_0; replace hx340_1 := cb HB hx340_1; replace hx340_2 := cb HB hx340_2; replace hx340_3 := cb HB hx340_3; replace hx340_4 := cb HB hx340_4; replace hx340_5 := cb HB hx340_5; replace hx340_0 := cf24 gb319 ((rd_T28 l0 x11_1).f0) hx340_0; replace hx340_1 := cf24 gb319 ((rd_T28 l0 x11_1).f0) hx340_1; replace hx340_2 := cf24 gb319 ((rd_T28 l0 x11_1).f0) hx340_2; replace hx340_3 := cf24 gb319 ((rd_T28 l0 x11_1).f0) hx340_3; replace hx340_4 := cf24 gb319 ((rd_T28 l0 x11_1).f0) hx340_4; replace hx340_5 := cf24 gb319 ((rd_T28 l0 x11_1).f0) hx340_5; clear hn340_0; replace p340 := eq_true p340; replace q340 := eq_true q340) | ((with_reducible refine gate_builtin (b := .append) (xs := #[.tmp 52, .tmp 58]) rfl ?_); at_builtin; refine Kd.R_append (Kd.int .i64) (w0 := w) w.heap.size rfl (.tmp 52) (.tmp 58) 62 2 (.int .i64 0) 8 rfl Try.underlying62 info2 rfl (by decide) (by omega) u10 x10_1 ((rd_T28 l0 x11_1).f1) [.int .i64 ((rd_T28 l0 x11_1).f1)] (fun _ => True) (fun _ => False) rfl (by first | (go_simp; done) | (go_simp; rfl)) ?aP (fun _ hk => hk.elim) ?aF ?aO ?aB ?aS ?aL ?_; (case aP => exact rfl); (case aB => exact bx); (case aF => exact (fun _ _ => trivial)); (case aO => exact (by (with_reducible repeat (first | apply Kd.R_alloc | apply Kd.R_drewN | apply Kd.R_drew)); exact Kd.R_mono (rf24 gb319 ((rd_T28 l0 x11_1).f0) (Kd.R_types HO_10.out BK319.out (by decide)) (fun _ hk => hk.2)) (fun _ hk => trivial))); (case aS => exact (below_size bx)); (case aL => have := LMc44.out; omega); intro v342 w47 ho hb hg hat; rw [← Ny341.out] at ho; have n0_ := Aside0.mk (blk_grown (g := gb319) (o := .cells #[.string ((rd_T28 l0 x11_1).f0.f0), .string ((rd_T28 l0 x11_1).f0.f1), .string ((rd_T28 l0 x11_1).f0.f2), .string ((rd_T28 l0 x11_1).f0.f3), .int .i64 ((rd_T28 l0 x11_1).f0.f4)] 24 (0, 0)) (bp24 BK319 ((rd_T28 l0 x11_1).f0)) hg (Kd.R_ne HO_10.out BK319.out (by decide))); have n1_ := Aside0.mk (hb); have n2_ := Aside0.mk (ho); clear BK319; clear HB; clear HO_10; have BK319 := n0_; have HB := n1_; have HO343 := n2_; clear n0_ n1_ n2_; clear ho hb hg hat))
           go_roundg k1
           case measure => have := HK1.out; omega
           case rel => exact ⟨(y341), (wrap64 (x11_1 + 1)), rs_, H', ⟨by have := HK1.out; omega⟩, ⟨kr HO343⟩, ⟨bx⟩⟩
          ·rw [if_neg c44] at H
           exact absurd H (by simp)
         ·rw [if_neg c43] at H
          have c43b0 : (((rd_T28 l0 x11_1).f0.f2).toList == a3.toList) = false := beq_eq_false_iff_ne.mpr c43
          have c43b1 : (((rd_T28 l0 x11_1).f0.f2).toList != a3.toList) = true := bne_iff_ne.mpr c43
          have H' := Aside0.mk H
          clear H
          have p318 : 0 ≤ (x11_1 : Int) := of_decide_eq_true as_
          have q318 : x11_1 < (l0.length : Int) := of_decide_eq_true as_
          obtain ⟨ad318, e318, hx318_0, hx318_1, hx318_2, hx318_3, hx318_4, hx318_5⟩ := at_T28 HR0.out x11_1 p318 q318
          cases e318; replace hx318_0 := cb HB hx318_0; replace hx318_1 := cb HB hx318_1; replace hx318_2 := cb HB hx318_2; replace hx318_3 := cb HB hx318_3; replace hx318_4 := cb HB hx318_4; replace hx318_5 := cb HB hx318_5; replace p318 := eq_true p318; replace q318 := eq_true q318
          go_wp2_with (first | ((with_reducible refine gate_dst (N := 12) rfl ?_); refine box_event ?hg (N := 12) ?hd (cs := #[.string (⟨#[]⟩ : ByteArray), .string (⟨#[]⟩ : ByteArray), .string (⟨#[]⟩ : ByteArray), .string (⟨#[]⟩ : ByteArray), .int .i64 0]) (t := 24) ?hr ?_; (case hd => rfl); (case hg => rfl); (case hr => first | (go_simp; done) | (go_simp; rfl)); intro gb319 hg w48 hbox hb; have n0_ := Aside0.mk (Kd.R_below (kr HO_10) hb); have n1_ := Aside0.mk (below_step bw hb); have n2_ := Aside0.mk (hbox); have n3_ := Aside0.mk ((by rw [hg]; exact (below_size bw) : w.heap.size ≤ gb319)); have n4_ := Aside0.mk ((by rw [hg]; exact (below_size bw) : w.heap.size ≤ gb319)); clear HO_10; clear HB; have HO_10 := n0_; have HB := n1_; have BK319 := n2_; have GW319 := n3_; have GE319 := n4_; clear n0_ n1_ n2_ n3_ n4_; clear hb hbox hg; obtain ⟨hcz49_0, hcz49_1, hcz49_2, hcz49_3, hcz49_4⟩ := bc5 BK319.out; have hfz49_0 := blk_frozen BK319.out 0; have hfz49_1 := blk_frozen BK319.out 1; have hfz49_2 := blk_frozen BK319.out 2; have hfz49_3 := blk_frozen BK319.out 3; have hfz49_4 := blk_frozen BK319.out 4))
          go_roundg k1
          case measure => have := HK1.out; omega
          case rel => exact ⟨(x10_1), (wrap64 (x11_1 + 1)), rs_, H', ⟨by have := HK1.out; omega⟩, ⟨by (with_reducible repeat (first | apply Kd.R_alloc | apply Kd.R_drewN | apply Kd.R_drew)); exact Kd.R_mono (rf24 gb319 ((rd_T28 l0 x11_1).f0) (Kd.R_types HO_10.out BK319.out (by decide)) (fun _ hk => hk.2)) (fun _ hk => trivial)⟩, ⟨bx⟩⟩
       ·rw [if_neg c37] at H
        have c37b0 : (a2.toList == ([] : List UInt8)) = false := beq_eq_false_iff_ne.mpr c37
        have c37b1 : (a2.toList != ([] : List UInt8)) = true := bne_iff_ne.mpr c37
        by_cases c50 : ((rd_T28 l0 x11_1).f0.f1).toList = a2.toList
        ·rw [if_pos c50] at H
         have c50b0 : (((rd_T28 l0 x11_1).f0.f1).toList == a2.toList) = true := beq_iff_eq.mpr c50
         have c50b1 : (((rd_T28 l0 x11_1).f0.f1).toList != a2.toList) = false := bne_eq_false_iff_eq.mpr c50
         clear c50
         by_cases c51 : a3.toList = ([] : List UInt8)
         ·rw [if_pos c51] at H
          have c51b0 : (a3.toList == ([] : List UInt8)) = true := beq_iff_eq.mpr c51
          have c51b1 : (a3.toList != ([] : List UInt8)) = false := bne_eq_false_iff_eq.mpr c51
          clear c51
          by_cases c52 : x10_1.length < 17592186044416
          ·rw [if_pos c52] at H; have LMc52 := Aside0.mk c52; clear c52
           obtain ⟨y345, hy345⟩ : ∃ y_ : List Int, y_ = (x10_1 ++ [(rd_T28 l0 x11_1).f1]) := ⟨_, rfl⟩
           replace H : (comptrollerref09_Sum.l0 k1 l0 a1 a2 a3 y345 (wrap64 (x11_1 + 1))) = some (r1, r2) := rh hy345 H
           have Ny345 := Aside0.mk hy345; clear hy345
           have H' := Aside0.mk H
           clear H
           have p318 : 0 ≤ (x11_1 : Int) := of_decide_eq_true as_
           have q318 : x11_1 < (l0.length : Int) := of_decide_eq_true as_
           obtain ⟨ad318, e318, hx318_0, hx318_1, hx318_2, hx318_3, hx318_4, hx318_5⟩ := at_T28 HR0.out x11_1 p318 q318
           cases e318; replace hx318_0 := cb HB hx318_0; replace hx318_1 := cb HB hx318_1; replace hx318_2 := cb HB hx318_2; replace hx318_3 := cb HB hx318_3; replace hx318_4 := cb HB hx318_4; replace hx318_5 := cb HB hx318_5; replace p318 := eq_true p318; replace q318 := eq_true q318
           go_wp2_with (first | ((with_reducible refine gate_dst (N := 12) rfl ?_); refine box_event ?hg (N := 12) ?hd (cs := #[.string (⟨#[]⟩ : ByteArray), .string (⟨#[]⟩ : ByteArray), .string (⟨#[]⟩ : ByteArray), .string (⟨#[]⟩ : ByteArray), .int .i64 0]) (t := 24) ?hr ?_; (case hd => rfl); (case hg => rfl); (case hr => first | (go_simp; done) | (go_simp; rfl)); intro gb319 hg w53 hbox hb; have n0_ := Aside0.mk (Kd.R_below (kr HO_10) hb); have n1_ := Aside0.mk (below_step bw hb); have n2_ := Aside0.mk (hbox); have n3_ := Aside0.mk ((by rw [hg]; exact (below_size bw) : w.heap.size ≤ gb319)); have n4_ := Aside0.mk ((by rw [hg]; exact (below_size bw) : w.heap.size ≤ gb319)); clear HO_10; clear HB; have HO_10 := n0_; have HB := n1_; have BK319 := n2_; have GW319 := n3_; have GE319 := n4_; clear n0_ n1_ n2_ n3_ n4_; clear hb hbox hg; obtain ⟨hcz54_0, hcz54_1, hcz54_2, hcz54_3, hcz54_4⟩ := bc5 BK319.out; have hfz54_0 := blk_frozen BK319.out 0; have hfz54_1 := blk_frozen BK319.out 1; have hfz54_2 := blk_frozen BK319.out 2; have hfz54_3 := blk_frozen BK319.out 3; have hfz54_4 := blk_frozen BK319.out 4; have p344 : 0 ≤ (x11_1 : Int) := of_decide_eq_true as_; have q344 : x11_1 < (l0.length : Int) := of_decide_eq_true as_; obtain ⟨ad344, e344, hx344_0, hx344_1, hx344_2, hx344_3, hx344_4, hx344_5⟩ := at_T28 HR0.out x11_1 p344 q344; obtain rfl : ad318 = ad344 := (by injection e344); have hn344_0 : ad318.block ≠ gb319 := Nat.ne_of_lt (Nat.lt_of_lt_of_le (by have := World.block_lt_of_cell? _ _ hx344_0; first | rwa [add_block] at this | exact this) GW319.out); replace hx344_0 := cb HB hx344_0; replace hx344_1 := cb HB hx344_1; replace hx344_2 := cb HB hx344_2; replace hx344_3 := cb HB hx344_3; replace hx344_4 := cb HB hx344_4; replace hx344_5 := cb HB hx344_5; replace hx344_0 := cf24 gb319 ((rd_T28 l0 x11_1).f0) hx344_0; replace hx344_1 := cf24 gb319 ((rd_T28 l0 x11_1).f0) hx344_1; replace hx344_2 := cf24 gb319 ((rd_T28 l0 x11_1).f0) hx344_2; replace hx344_3 := cf24 gb319 ((rd_T28 l0 x11_1).f0) hx344_3; replace hx344_4 := cf24 gb319 ((rd_T28 l0 x11_1).f0) hx344_4; replace hx344_5 := cf24 gb319 ((rd_T28 l0 x11_1).f0) hx344_5; clear hn344_0; replace p344 := eq_true p344; replace q344 := eq_true q344) | ((with_reducible refine gate_builtin (b := .append) (xs := #[.tmp 52, .tmp 58]) rfl ?_); at_builtin; refine Kd.R_append (Kd.int .i64) (w0 := w) w.heap.size rfl (.tmp 52) (.tmp 58) 62 2 (.int .i64 0) 8 rfl Try.underlying62 info2 rfl (by decide) (by omega) u10 x10_1 ((rd_T28 l0 x11_1).f1) [.int .i64 ((rd_T28 l0 x11_1).f1)] (fun _ => True) (fun _ => False) rfl (by first | (go_simp; done) | (go_simp; rfl)) ?aP (fun _ hk => hk.elim) ?aF ?aO ?aB ?aS ?aL ?_; (case aP => exact rfl); (case aB => exact bx); (case aF => exact (fun _ _ => trivial)); (case aO => exact (by (with_reducible repeat (first | apply Kd.R_alloc | apply Kd.R_drewN | apply Kd.R_drew)); exact Kd.R_mono (rf24 gb319 ((rd_T28 l0 x11_1).f0) (Kd.R_types HO_10.out BK319.out (by decide)) (fun _ hk => hk.2)) (fun _ hk => trivial))); (case aS => exact (below_size bx)); (case aL => have := LMc52.out; omega); intro v346 w55 ho hb hg hat; rw [← Ny345.out] at ho; have n0_ := Aside0.mk (blk_grown (g := gb319) (o := .cells #[.string ((rd_T28 l0 x11_1).f0.f0), .string ((rd_T28 l0 x11_1).f0.f1), .string ((rd_T28 l0 x11_1).f0.f2), .string ((rd_T28 l0 x11_1).f0.f3), .int .i64 ((rd_T28 l0 x11_1).f0.f4)] 24 (0, 0)) (bp24 BK319 ((rd_T28 l0 x11_1).f0)) hg (Kd.R_ne HO_10.out BK319.out (by decide))); have n1_ := Aside0.mk (hb); have n2_ := Aside0.mk (ho); clear BK319; clear HB; clear HO_10; have BK319 := n0_; have HB := n1_; have HO347 := n2_; clear n0_ n1_ n2_; clear ho hb hg hat))
           go_roundg k1
           case measure => have := HK1.out; omega
           case rel => exact ⟨(y345), (wrap64 (x11_1 + 1)), rs_, H', ⟨by have := HK1.out; omega⟩, ⟨kr HO347⟩, ⟨bx⟩⟩
          ·rw [if_neg c52] at H
           exact absurd H (by simp)
         ·rw [if_neg c51] at H
          have c51b0 : (a3.toList == ([] : List UInt8)) = false := beq_eq_false_iff_ne.mpr c51
          have c51b1 : (a3.toList != ([] : List UInt8)) = true := bne_iff_ne.mpr c51
          by_cases c56 : ((rd_T28 l0 x11_1).f0.f2).toList = a3.toList
          ·rw [if_pos c56] at H
           have c56b0 : (((rd_T28 l0 x11_1).f0.f2).toList == a3.toList) = true := beq_iff_eq.mpr c56
           have c56b1 : (((rd_T28 l0 x11_1).f0.f2).toList != a3.toList) = false := bne_eq_false_iff_eq.mpr c56
           clear c56
           by_cases c57 : x10_1.length < 17592186044416
           ·rw [if_pos c57] at H; have LMc57 := Aside0.mk c57; clear c57
            obtain ⟨y349, hy349⟩ : ∃ y_ : List Int, y_ = (x10_1 ++ [(rd_T28 l0 x11_1).f1]) := ⟨_, rfl⟩
            replace H : (comptrollerref09_Sum.l0 k1 l0 a1 a2 a3 y349 (wrap64 (x11_1 + 1))) = some (r1, r2) := rh hy349 H
            have Ny349 := Aside0.mk hy349; clear hy349
            have H' := Aside0.mk H
            clear H
            have p318 : 0 ≤ (x11_1 : Int) := of_decide_eq_true as_
            have q318 : x11_1 < (l0.length : Int) := of_decide_eq_true as_
            obtain ⟨ad318, e318, hx318_0, hx318_1, hx318_2, hx318_3, hx318_4, hx318_5⟩ := at_T28 HR0.out x11_1 p318 q318
            cases e318; replace hx318_0 := cb HB hx318_0; replace hx318_1 := cb HB hx318_1; replace hx318_2 := cb HB hx318_2; replace hx318_3 := cb HB hx318_3; replace hx318_4 := cb HB hx318_4; replace hx318_5 := cb HB hx318_5; replace p318 := eq_true p318; replace q318 := eq_true q318
            go_wp2_with (first | ((with_reducible refine gate_dst (N := 12) rfl ?_); refine box_event ?hg (N := 12) ?hd (cs := #[.string (⟨#[]⟩ : ByteArray), .string (⟨#[]⟩ : ByteArray), .string (⟨#[]⟩ : ByteArray), .string (⟨#[]⟩ : ByteArray), .int .i64 0]) (t := 24) ?hr ?_; (case hd => rfl); (case hg => rfl); (case hr => first | (go_simp; done) | (go_simp; rfl)); intro gb319 hg w58 hbox hb; have n0_ := Aside0.mk (Kd.R_below (kr HO_10) hb); have n1_ := Aside0.mk (below_step bw hb); have n2_ := Aside0.mk (hbox); have n3_ := Aside0.mk ((by rw [hg]; exact (below_size bw) : w.heap.size ≤ gb319)); have n4_ := Aside0.mk ((by rw [hg]; exact (below_size bw) : w.heap.size ≤ gb319)); clear HO_10; clear HB; have HO_10 := n0_; have HB := n1_; have BK319 := n2_; have GW319 := n3_; have GE319 := n4_; clear n0_ n1_ n2_ n3_ n4_; clear hb hbox hg; obtain ⟨hcz59_0, hcz59_1, hcz59_2, hcz59_3, hcz59_4⟩ := bc5 BK319.out; have hfz59_0 := blk_frozen BK319.out 0; have hfz59_1 := blk_frozen BK319.out 1; have hfz59_2 := blk_frozen BK319.out 2; have hfz59_3 := blk_frozen BK319.out 3; have hfz59_4 := blk_frozen BK319.out 4; have p348 : 0 ≤ (x11_1 : Int) := of_decide_eq_true as_; have q348 : x11_1 < (l0.length : Int) := of_decide_eq_true as_; obtain ⟨ad348, e348, hx348_0, hx348_1, hx348_2, hx348_3, hx348_4, hx348_5⟩ := at_T28 HR0.out x11_1 p348 q348; obtain rfl : ad318 = ad348 := (by injection e348); have hn348_0 : ad318.block ≠ gb319 := Nat.ne_of_lt (Nat.lt_of_lt_of_le (by have := World.block_lt_of_cell? _ _ hx348_0; first | rwa [add_block] at this | exact this) GW319.out); replace hx348_0 := cb HB hx348_0; replace hx348_1 := cb HB hx348_1; replace hx348_2 := cb HB hx348_2; replace hx348_3 := cb HB hx348_3; replace hx348_4 := cb HB hx348_4; replace hx348_5 := cb HB hx348_5; replace hx348_0 := cf24 gb319 ((rd_T28 l0 x11_1).f0) hx348_0; replace hx348_1 := cf24 gb319 ((rd_T28 l0 x11_1).f0) hx348_1; replace hx348_2 := cf24 gb319 ((rd_T28 l0 x11_1).f0) hx348_2; replace hx348_3 := cf24 gb319 ((rd_T28 l0 x11_1).f0) hx348_3; replace hx348_4 := cf24 gb319 ((rd_T28 l0 x11_1).f0) hx348_4; replace hx348_5 := cf24 gb319 ((rd_T28 l0 x11_1).f0) hx348_5; clear hn348_0; replace p348 := eq_true p348; replace q348 := eq_true q348) | ((with_reducible refine gate_builtin (b := .append) (xs := #[.tmp 52, .tmp 58]) rfl ?_); at_builtin; refine Kd.R_append (Kd.int .i64) (w0 := w) w.heap.size rfl (.tmp 52) (.tmp 58) 62 2 (.int .i64 0) 8 rfl Try.underlying62 info2 rfl (by decide) (by omega) u10 x10_1 ((rd_T28 l0 x11_1).f1) [.int .i64 ((rd_T28 l0 x11_1).f1)] (fun _ => True) (fun _ => False) rfl (by first | (go_simp; done) | (go_simp; rfl)) ?aP (fun _ hk => hk.elim) ?aF ?aO ?aB ?aS ?aL ?_; (case aP => exact rfl); (case aB => exact bx); (case aF => exact (fun _ _ => trivial)); (case aO => exact (by (with_reducible repeat (first | apply Kd.R_alloc | apply Kd.R_drewN | apply Kd.R_drew)); exact Kd.R_mono (rf24 gb319 ((rd_T28 l0 x11_1).f0) (Kd.R_types HO_10.out BK319.out (by decide)) (fun _ hk => hk.2)) (fun _ hk => trivial))); (case aS => exact (below_size bx)); (case aL => have := LMc57.out; omega); intro v350 w60 ho hb hg hat; rw [← Ny349.out] at ho; have n0_ := Aside0.mk (blk_grown (g := gb319) (o := .cells #[.string ((rd_T28 l0 x11_1).f0.f0), .string ((rd_T28 l0 x11_1).f0.f1), .string ((rd_T28 l0 x11_1).f0.f2), .string ((rd_T28 l0 x11_1).f0.f3), .int .i64 ((rd_T28 l0 x11_1).f0.f4)] 24 (0, 0)) (bp24 BK319 ((rd_T28 l0 x11_1).f0)) hg (Kd.R_ne HO_10.out BK319.out (by decide))); have n1_ := Aside0.mk (hb); have n2_ := Aside0.mk (ho); clear BK319; clear HB; clear HO_10; have BK319 := n0_; have HB := n1_; have HO351 := n2_; clear n0_ n1_ n2_; clear ho hb hg hat))
            go_roundg k1
            case measure => have := HK1.out; omega
            case rel => exact ⟨(y349), (wrap64 (x11_1 + 1)), rs_, H', ⟨by have := HK1.out; omega⟩, ⟨kr HO351⟩, ⟨bx⟩⟩
           ·rw [if_neg c57] at H
            exact absurd H (by simp)
          ·rw [if_neg c56] at H
           have c56b0 : (((rd_T28 l0 x11_1).f0.f2).toList == a3.toList) = false := beq_eq_false_iff_ne.mpr c56
           have c56b1 : (((rd_T28 l0 x11_1).f0.f2).toList != a3.toList) = true := bne_iff_ne.mpr c56
           have H' := Aside0.mk H
           clear H
           have p318 : 0 ≤ (x11_1 : Int) := of_decide_eq_true as_
           have q318 : x11_1 < (l0.length : Int) := of_decide_eq_true as_
           obtain ⟨ad318, e318, hx318_0, hx318_1, hx318_2, hx318_3, hx318_4, hx318_5⟩ := at_T28 HR0.out x11_1 p318 q318
           cases e318; replace hx318_0 := cb HB hx318_0; replace hx318_1 := cb HB hx318_1; replace hx318_2 := cb HB hx318_2; replace hx318_3 := cb HB hx318_3; replace hx318_4 := cb HB hx318_4; replace hx318_5 := cb HB hx318_5; replace p318 := eq_true p318; replace q318 := eq_true q318
           go_wp2_with (first | ((with_reducible refine gate_dst (N := 12) rfl ?_); refine box_event ?hg (N := 12) ?hd (cs := #[.string (⟨#[]⟩ : ByteArray), .string (⟨#[]⟩ : ByteArray), .string (⟨#[]⟩ : ByteArray), .string (⟨#[]⟩ : ByteArray), .int .i64 0]) (t := 24) ?hr ?_; (case hd => rfl); (case hg => rfl); (case hr => first | (go_simp; done) | (go_simp; rfl)); intro gb319 hg w61 hbox hb; have n0_ := Aside0.mk (Kd.R_below (kr HO_10) hb); have n1_ := Aside0.mk (below_step bw hb); have n2_ := Aside0.mk (hbox); have n3_ := Aside0.mk ((by rw [hg]; exact (below_size bw) : w.heap.size ≤ gb319)); have n4_ := Aside0.mk ((by rw [hg]; exact (below_size bw) : w.heap.size ≤ gb319)); clear HO_10; clear HB; have HO_10 := n0_; have HB := n1_; have BK319 := n2_; have GW319 := n3_; have GE319 := n4_; clear n0_ n1_ n2_ n3_ n4_; clear hb hbox hg; obtain ⟨hcz62_0, hcz62_1, hcz62_2, hcz62_3, hcz62_4⟩ := bc5 BK319.out; have hfz62_0 := blk_frozen BK319.out 0; have hfz62_1 := blk_frozen BK319.out 1; have hfz62_2 := blk_frozen BK319.out 2; have hfz62_3 := blk_frozen BK319.out 3; have hfz62_4 := blk_frozen BK319.out 4))
           go_roundg k1
           case measure => have := HK1.out; omega
           case rel => exact ⟨(x10_1), (wrap64 (x11_1 + 1)), rs_, H', ⟨by have := HK1.out; omega⟩, ⟨by (with_reducible repeat (first | apply Kd.R_alloc | apply Kd.R_drewN | apply Kd.R_drew)); exact Kd.R_mono (rf24 gb319 ((rd_T28 l0 x11_1).f0) (Kd.R_types HO_10.out BK319.out (by decide)) (fun _ hk => hk.2)) (fun _ hk => trivial)⟩, ⟨bx⟩⟩
        ·rw [if_neg c50] at H
         have c50b0 : (((rd_T28 l0 x11_1).f0.f1).toList == a2.toList) = false := beq_eq_false_iff_ne.mpr c50
         have c50b1 : (((rd_T28 l0 x11_1).f0.f1).toList != a2.toList) = true := bne_iff_ne.mpr c50
         have H' := Aside0.mk H
         clear H
         have p318 : 0 ≤ (x11_1 : Int) := of_decide_eq_true as_
         have q318 : x11_1 < (l0.length : Int) := of_decide_eq_true as_
         obtain ⟨ad318, e318, hx318_0, hx318_1, hx318_2, hx318_3, hx318_4, hx318_5⟩ := at_T28 HR0.out x11_1 p318 q318
         cases e318; replace hx318_0 := cb HB hx318_0; replace hx318_1 := cb HB hx318_1; replace hx318_2 := cb HB hx318_2; replace hx318_3 := cb HB hx318_3; replace hx318_4 := cb HB hx318_4; replace hx318_5 := cb HB hx318_5; replace p318 := eq_true p318; replace q318 := eq_true q318
         go_wp2_with (first | ((with_reducible refine gate_dst (N := 12) rfl ?_); refine box_event ?hg (N := 12) ?hd (cs := #[.string (⟨#[]⟩ : ByteArray), .string (⟨#[]⟩ : ByteArray), .string (⟨#[]⟩ : ByteArray), .string (⟨#[]⟩ : ByteArray), .int .i64 0]) (t := 24) ?hr ?_; (case hd => rfl); (case hg => rfl); (case hr => first | (go_simp; done) | (go_simp; rfl)); intro gb319 hg w63 hbox hb; have n0_ := Aside0.mk (Kd.R_below (kr HO_10) hb); have n1_ := Aside0.mk (below_step bw hb); have n2_ := Aside0.mk (hbox); have n3_ := Aside0.mk ((by rw [hg]; exact (below_size bw) : w.heap.size ≤ gb319)); have n4_ := Aside0.mk ((by rw [hg]; exact (below_size bw) : w.heap.size ≤ gb319)); clear HO_10; clear HB; have HO_10 := n0_; have HB := n1_; have BK319 := n2_; have GW319 := n3_; have GE319 := n4_; clear n0_ n1_ n2_ n3_ n4_; clear hb hbox hg; obtain ⟨hcz64_0, hcz64_1, hcz64_2, hcz64_3, hcz64_4⟩ := bc5 BK319.out; have hfz64_0 := blk_frozen BK319.out 0; have hfz64_1 := blk_frozen BK319.out 1; have hfz64_2 := blk_frozen BK319.out 2; have hfz64_3 := blk_frozen BK319.out 3; have hfz64_4 := blk_frozen BK319.out 4))
         go_roundg k1
         case measure => have := HK1.out; omega
         case rel => exact ⟨(x10_1), (wrap64 (x11_1 + 1)), rs_, H', ⟨by have := HK1.out; omega⟩, ⟨by (with_reducible repeat (first | apply Kd.R_alloc | apply Kd.R_drewN | apply Kd.R_drew)); exact Kd.R_mono (rf24 gb319 ((rd_T28 l0 x11_1).f0) (Kd.R_types HO_10.out BK319.out (by decide)) (fun _ hk => hk.2)) (fun _ hk => trivial)⟩, ⟨bx⟩⟩
      ·rw [if_neg c36] at H
       have c36b0 : (((rd_T28 l0 x11_1).f0.f0).toList == a1.toList) = false := beq_eq_false_iff_ne.mpr c36
       have c36b1 : (((rd_T28 l0 x11_1).f0.f0).toList != a1.toList) = true := bne_iff_ne.mpr c36
       have H' := Aside0.mk H
       clear H
       have p318 : 0 ≤ (x11_1 : Int) := of_decide_eq_true as_
       have q318 : x11_1 < (l0.length : Int) := of_decide_eq_true as_
       obtain ⟨ad318, e318, hx318_0, hx318_1, hx318_2, hx318_3, hx318_4, hx318_5⟩ := at_T28 HR0.out x11_1 p318 q318
       cases e318; replace hx318_0 := cb HB hx318_0; replace hx318_1 := cb HB hx318_1; replace hx318_2 := cb HB hx318_2; replace hx318_3 := cb HB hx318_3; replace hx318_4 := cb HB hx318_4; replace hx318_5 := cb HB hx318_5; replace p318 := eq_true p318; replace q318 := eq_true q318
       go_wp2_with (first | ((with_reducible refine gate_dst (N := 12) rfl ?_); refine box_event ?hg (N := 12) ?hd (cs := #[.string (⟨#[]⟩ : ByteArray), .string (⟨#[]⟩ : ByteArray), .string (⟨#[]⟩ : ByteArray), .string (⟨#[]⟩ : ByteArray), .int .i64 0]) (t := 24) ?hr ?_; (case hd => rfl); (case hg => rfl); (case hr => first | (go_simp; done) | (go_simp; rfl)); intro gb319 hg w65 hbox hb; have n0_ := Aside0.mk (Kd.R_below (kr HO_10) hb); have n1_ := Aside0.mk (below_step bw hb); have n2_ := Aside0.mk (hbox); have n3_ := Aside0.mk ((by rw [hg]; exact (below_size bw) : w.heap.size ≤ gb319)); have n4_ := Aside0.mk ((by rw [hg]; exact (below_size bw) : w.heap.size ≤ gb319)); clear HO_10; clear HB; have HO_10 := n0_; have HB := n1_; have BK319 := n2_; have GW319 := n3_; have GE319 := n4_; clear n0_ n1_ n2_ n3_ n4_; clear hb hbox hg; obtain ⟨hcz66_0, hcz66_1, hcz66_2, hcz66_3, hcz66_4⟩ := bc5 BK319.out; have hfz66_0 := blk_frozen BK319.out 0; have hfz66_1 := blk_frozen BK319.out 1; have hfz66_2 := blk_frozen BK319.out 2; have hfz66_3 := blk_frozen BK319.out 3; have hfz66_4 := blk_frozen BK319.out 4))
       go_roundg k1
       case measure => have := HK1.out; omega
       case rel => exact ⟨(x10_1), (wrap64 (x11_1 + 1)), rs_, H', ⟨by have := HK1.out; omega⟩, ⟨by (with_reducible repeat (first | apply Kd.R_alloc | apply Kd.R_drewN | apply Kd.R_drew)); exact Kd.R_mono (rf24 gb319 ((rd_T28 l0 x11_1).f0) (Kd.R_types HO_10.out BK319.out (by decide)) (fun _ hk => hk.2)) (fun _ hk => trivial)⟩, ⟨bx⟩⟩
    ·rw [if_neg c6] at H
     exact absurd H (by simp)
   ·rw [if_neg c5] at H
    have c5b0 : decide (x11_1 < (l0.length : Int)) = false := decide_eq_false c5
    clear c5
    replace H := Option.bind_eq_some_iff.mp H
    obtain ⟨⟨t352, t353⟩, A670, H⟩ := H
    replace H : (some (t352, t353)) = some (r1, r2) := H
    have A67 := Aside0.mk A670; clear A670
    simp only [Option.some.injEq, Prod.mk.injEq] at H
    obtain ⟨rfl, rfl⟩ := H
    obtain ⟨Ao68, co68, eo68⟩ := Kd.R_slice HO_10.out
    subst eo68
    go_wp2_with (first | ((with_reducible refine gate_callee (f := 29) rfl ?_); refine goesL_ (some 61) rfl rfl Try.func29 (by kernel_rfl) rfl #[.slice Ao68 x10_1.length co68] rfl mp_ ?_; (with_reducible refine (comptrollerref01_Sum.calls k1 _ _ x10_1 t352 t353 _ ?side1 ?side2 A67.out).mono ?_); (case side1 => repeat (first | exact (Kd.R_reads' HO_10.out).2.2 | (with_reducible refine Kd.C_alloc ?_ _) | (with_reducible refine Kd.C_drewN ?_ _) | (with_reducible refine Kd.C_drew ?_))); (case side2 => exact (Kd.R_reads' HO_10.out).2.1); rintro e w' ⟨rfl, ⟨nd, rfl⟩⟩; refine ⟨_, rfl, ?_⟩))
    go_ret2
    exact ⟨re_, bw⟩
/-! ### comptrollerref09_Pick: function 19 -/
def comptrollerref09_Pick.l0 : Nat → List (S28) → ByteArray → Int → List (S28) → Int → Option ((List (S28)))
 | 0, _, _, _, _, _ => none
 | k + 1, x0, x1, x2, x7, x8 => if x8 < (x0.length : Int) then (if x1.toList = ([] : List UInt8) then (if x2 < 0 then (if 0 ≤ x8 then (if x7.length < 1759218604441 then (comptrollerref09_Pick.l0 k x0 x1 x2 (x7 ++ [(⟨(⟨(rd_T28 x0 x8).f0.f0, (rd_T28 x0 x8).f0.f1, (rd_T28 x0 x8).f0.f2, (rd_T28 x0 x8).f0.f3, (rd_T28 x0 x8).f0.f4⟩ : S24), (rd_T28 x0 x8).f1⟩ : S28)]) (wrap64 (x8 + 1))) else (none)) else (none)) else (if 0 ≤ x8 then (if ((rd_T28 x0 x8).f0.f4) = x2 then (if x7.length < 1759218604441 then (comptrollerref09_Pick.l0 k x0 x1 x2 (x7 ++ [(⟨(⟨(rd_T28 x0 x8).f0.f0, (rd_T28 x0 x8).f0.f1, (rd_T28 x0 x8).f0.f2, (rd_T28 x0 x8).f0.f3, (rd_T28 x0 x8).f0.f4⟩ : S24), (rd_T28 x0 x8).f1⟩ : S28)]) (wrap64 (x8 + 1))) else (none)) else (comptrollerref09_Pick.l0 k x0 x1 x2 x7 (wrap64 (x8 + 1)))) else (none))) else (if 0 ≤ x8 then (if ((rd_T28 x0 x8).f0.f0).toList = x1.toList then (if x2 < 0 then (if x7.length < 1759218604441 then (comptrollerref09_Pick.l0 k x0 x1 x2 (x7 ++ [(⟨(⟨(rd_T28 x0 x8).f0.f0, (rd_T28 x0 x8).f0.f1, (rd_T28 x0 x8).f0.f2, (rd_T28 x0 x8).f0.f3, (rd_T28 x0 x8).f0.f4⟩ : S24), (rd_T28 x0 x8).f1⟩ : S28)]) (wrap64 (x8 + 1))) else (none)) else (if ((rd_T28 x0 x8).f0.f4) = x2 then (if x7.length < 1759218604441 then (comptrollerref09_Pick.l0 k x0 x1 x2 (x7 ++ [(⟨(⟨(rd_T28 x0 x8).f0.f0, (rd_T28 x0 x8).f0.f1, (rd_T28 x0 x8).f0.f2, (rd_T28 x0 x8).f0.f3, (rd_T28 x0 x8).f0.f4⟩ : S24), (rd_T28 x0 x8).f1⟩ : S28)]) (wrap64 (x8 + 1))) else (none)) else (comptrollerref09_Pick.l0 k x0 x1 x2 x7 (wrap64 (x8 + 1))))) else (comptrollerref09_Pick.l0 k x0 x1 x2 x7 (wrap64 (x8 + 1)))) else (none))) else (some x7)
def comptrollerref09_Pick.f (k : Nat) (l0 : List (S28)) (a1 : ByteArray) (a2 : Int) : Option ((List (S28))) := comptrollerref09_Pick.l0 k l0 a1 a2 ([] : List (S28)) 0
theorem comptrollerref09_Pick.mono_l : ∀ k, (∀ y0 y1 y2 y3 y4, LeO (comptrollerref09_Pick.l0 k y0 y1 y2 y3 y4) (comptrollerref09_Pick.l0 (k + 1) y0 y1 y2 y3 y4))
 | 0 => fun _ _ _ _ _ r h => by simp [comptrollerref09_Pick.l0] at h
 | k + 1 => by
  have ih0 := comptrollerref09_Pick.mono_l k
  ·intro y0 y1 y2 y3 y4
   unfold comptrollerref09_Pick.l0
   with_reducible repeat' first | apply ih0 | refine LeO.refl _ | refine LeO.none _ | refine LeO.ite ?_ ?_ | refine LeO.bind ?_ (fun _ => ?_)
theorem comptrollerref09_Pick.mono : ∀ a0 a1 a2 k, LeO (comptrollerref09_Pick.f k a0 a1 a2) (comptrollerref09_Pick.f (k + 1) a0 a1 a2) := by
 intro a0 a1 a2 k
 have ih0 := comptrollerref09_Pick.mono_l k
 unfold comptrollerref09_Pick.f
 with_reducible repeat' first | apply ih0 | refine LeO.refl _ | refine LeO.none _ | refine LeO.ite ?_ ?_ | refine LeO.bind ?_ (fun _ => ?_)
set_option maxHeartbeats 8000000 in
set_option maxRecDepth 100000 in
theorem comptrollerref09_Pick.calls (k : Nat) (A0 : Option Addr) (c0 : Nat) (l0 : List (S28)) (a1 : ByteArray) (a2 : Int) (r : List (S28)) (w : World) (hr0 : Kd.C k28 w A0 l0.length l0) (hc0 : l0.length ≤ c0) (h : comptrollerref09_Pick.f k l0 a1 a2 = some r) :
  Calls Try.prog 19 #[.slice A0 l0.length c0, .string a1, .int .i64 a2] w fun e w' => ∃ v0_ : Value, e = .returned (v0_) ∧ Kd.R k28 28 w' w.heap.size (fun _ => True) v0_ r ∧ Below w.heap.size w w' := by
 have hu28 := Try.underlying28; have HR0 := Aside0.mk hr0; have HC0 := Aside0.mk hc0; clear hr0 hc0
 have HB := Aside0.mk (Below.refl w.heap.size w)
 have H : (comptrollerref09_Pick.l0 k l0 a1 a2 ([] : List (S28)) 0) = some r := h
 clear h
 have H' := Aside0.mk H
 clear H
 go_enter Try.func19, Try.ntmps19
 go_wp2
 go_loopg [7, 8] k (fun kq v7 v8 w' => ∃ (x7_1 : List (S28)) (x8_1 : Int), v8 = .int .i64 x8_1 ∧ Aside0 (comptrollerref09_Pick.l0 kq l0 a1 a2 x7_1 x8_1 = some r) ∧ Aside0 (kq ≤ k) ∧ Aside0 (Kd.R k28 28 w' w.heap.size (fun _ => True) v7 x7_1) ∧ Aside0 (Below w.heap.size w w'))
 case atStart => exact ⟨(([] : List (S28))), (0), rs_, H', ⟨Nat.le_refl _⟩, ⟨by first | exact Kd.R_nil _ _ _ _ _ | exact Kd.N_nil _ _ _ _ _ | exact Kd.V_nil _ _ _ _ _ | exact Kd.Q_nil _ _ _ _ _ | exact Kd.S_nil _ _ _ _ _⟩, ⟨bw⟩⟩
 case round =>
  clear H'
  (try clear c1); (try clear p2)
  obtain ⟨x7_1, x8_1, rfl, HA, HK1, HO_7, HB⟩ := hrel
  cases gk with
  | zero => exact absurd HA.out (by simp [comptrollerref09_Pick.l0])
  | succ k1 =>
   have H := HA.out; clear HA
   simp only [comptrollerref09_Pick.l0] at H
   by_cases c4 : x8_1 < (l0.length : Int)
   ·rw [if_pos c4] at H
    have c4b0 : decide (x8_1 < (l0.length : Int)) = true := decide_eq_true c4
    clear c4
    by_cases c5 : a1.toList = ([] : List UInt8)
    ·rw [if_pos c5] at H
     have c5b0 : (a1.toList == ([] : List UInt8)) = true := beq_iff_eq.mpr c5
     have c5b1 : (a1.toList != ([] : List UInt8)) = false := bne_eq_false_iff_eq.mpr c5
     clear c5
     by_cases c6 : a2 < 0
     ·rw [if_pos c6] at H
      have c6b0 : decide (a2 < 0) = true := decide_eq_true c6
      clear c6
      by_cases c7 : 0 ≤ x8_1
      ·rw [if_pos c7] at H
       have c7b0 : decide (0 ≤ x8_1) = true := decide_eq_true c7
       clear c7
       by_cases c8 : x7_1.length < 1759218604441
       ·rw [if_pos c8] at H; have LMc8 := Aside0.mk c8; clear c8
        obtain ⟨y365, hy365⟩ : ∃ y_ : List (S28), y_ = (x7_1 ++ [(⟨(⟨(rd_T28 l0 x8_1).f0.f0, (rd_T28 l0 x8_1).f0.f1, (rd_T28 l0 x8_1).f0.f2, (rd_T28 l0 x8_1).f0.f3, (rd_T28 l0 x8_1).f0.f4⟩ : S24), (rd_T28 l0 x8_1).f1⟩ : S28)]) := ⟨_, rfl⟩
        replace H : (comptrollerref09_Pick.l0 k1 l0 a1 a2 y365 (wrap64 (x8_1 + 1))) = some r := rh hy365 H
        have Ny365 := Aside0.mk hy365; clear hy365
        have H' := Aside0.mk H
        clear H
        have p364 : 0 ≤ (x8_1 : Int) := of_decide_eq_true as_
        have q364 : x8_1 < (l0.length : Int) := of_decide_eq_true as_
        obtain ⟨ad364, e364, hx364_0, hx364_1, hx364_2, hx364_3, hx364_4, hx364_5⟩ := at_T28 HR0.out x8_1 p364 q364
        cases e364; replace hx364_0 := cb HB hx364_0; replace hx364_1 := cb HB hx364_1; replace hx364_2 := cb HB hx364_2; replace hx364_3 := cb HB hx364_3; replace hx364_4 := cb HB hx364_4; replace hx364_5 := cb HB hx364_5; replace p364 := eq_true p364; replace q364 := eq_true q364
        go_wp2_with (first | ((with_reducible refine gate_builtin (b := .append) (xs := #[.tmp 41, .tmp 46]) rfl ?_); at_builtin; refine Kd.R_append k28 (w0 := w) w.heap.size rfl (.tmp 41) (.tmp 46) 22 28 (.agg #[(.string ⟨#[]⟩), (.string ⟨#[]⟩), (.string ⟨#[]⟩), (.string ⟨#[]⟩), (.int .i64 0), (.int .i64 0)]) 80 rfl Try.underlying22 info28 rfl (by decide) (by omega) u7 x7_1 (⟨(⟨(rd_T28 l0 x8_1).f0.f0, (rd_T28 l0 x8_1).f0.f1, (rd_T28 l0 x8_1).f0.f2, (rd_T28 l0 x8_1).f0.f3, (rd_T28 l0 x8_1).f0.f4⟩ : S24), (rd_T28 l0 x8_1).f1⟩ : S28) [.string ((rd_T28 l0 x8_1).f0.f0), .string ((rd_T28 l0 x8_1).f0.f1), .string ((rd_T28 l0 x8_1).f0.f2), .string ((rd_T28 l0 x8_1).f0.f3), .int .i64 ((rd_T28 l0 x8_1).f0.f4), .int .i64 ((rd_T28 l0 x8_1).f1)] (fun _ => True) (fun _ => False) rfl rfl ?aP (fun _ hk => hk.elim) ?aF ?aO ?aB ?aS ?aL ?_; (case aP => exact k28_mkM _ _ _ (⟨(⟨(rd_T28 l0 x8_1).f0.f0, (rd_T28 l0 x8_1).f0.f1, (rd_T28 l0 x8_1).f0.f2, (rd_T28 l0 x8_1).f0.f3, (rd_T28 l0 x8_1).f0.f4⟩ : S24), (rd_T28 l0 x8_1).f1⟩ : S28)); (case aB => exact bw); (case aF => exact (fun _ _ => trivial)); (case aO => exact (kr HO_7)); (case aS => exact (below_size bw)); (case aL => have := LMc8.out; omega); intro v366 w9 ho hb hg hat; rw [← Ny365.out] at ho; have n0_ := Aside0.mk (hb); have n1_ := Aside0.mk (ho); clear HB; clear HO_7; have HB := n0_; have HO367 := n1_; clear n0_ n1_; clear ho hb hg hat))
        go_roundg k1
        case measure => have := HK1.out; omega
        case rel => exact ⟨(y365), (wrap64 (x8_1 + 1)), rs_, H', ⟨by have := HK1.out; omega⟩, ⟨kr HO367⟩, ⟨bw⟩⟩
       ·rw [if_neg c8] at H
        exact absurd H (by simp)
      ·rw [if_neg c7] at H
       exact absurd H (by simp)
     ·rw [if_neg c6] at H
      have c6b0 : decide (a2 < 0) = false := decide_eq_false c6
      clear c6
      by_cases c10 : 0 ≤ x8_1
      ·rw [if_pos c10] at H
       have c10b0 : decide (0 ≤ x8_1) = true := decide_eq_true c10
       clear c10
       by_cases c11 : ((rd_T28 l0 x8_1).f0.f4) = a2
       ·rw [if_pos c11] at H
        have c11b0 : (((rd_T28 l0 x8_1).f0.f4) == a2) = true := beq_iff_eq.mpr c11
        have c11b1 : (((rd_T28 l0 x8_1).f0.f4) != a2) = false := bne_eq_false_iff_eq.mpr c11
        clear c11
        by_cases c12 : x7_1.length < 1759218604441
        ·rw [if_pos c12] at H; have LMc12 := Aside0.mk c12; clear c12
         obtain ⟨y370, hy370⟩ : ∃ y_ : List (S28), y_ = (x7_1 ++ [(⟨(⟨(rd_T28 l0 x8_1).f0.f0, (rd_T28 l0 x8_1).f0.f1, (rd_T28 l0 x8_1).f0.f2, (rd_T28 l0 x8_1).f0.f3, (rd_T28 l0 x8_1).f0.f4⟩ : S24), (rd_T28 l0 x8_1).f1⟩ : S28)]) := ⟨_, rfl⟩
         replace H : (comptrollerref09_Pick.l0 k1 l0 a1 a2 y370 (wrap64 (x8_1 + 1))) = some r := rh hy370 H
         have Ny370 := Aside0.mk hy370; clear hy370
         have H' := Aside0.mk H
         clear H
         have p368 : 0 ≤ (x8_1 : Int) := of_decide_eq_true as_
         have q368 : x8_1 < (l0.length : Int) := of_decide_eq_true as_
         obtain ⟨ad368, e368, hx368_0, hx368_1, hx368_2, hx368_3, hx368_4, hx368_5⟩ := at_T28 HR0.out x8_1 p368 q368
         cases e368; replace hx368_0 := cb HB hx368_0; replace hx368_1 := cb HB hx368_1; replace hx368_2 := cb HB hx368_2; replace hx368_3 := cb HB hx368_3; replace hx368_4 := cb HB hx368_4; replace hx368_5 := cb HB hx368_5; replace p368 := eq_true p368; replace q368 := eq_true q368
         have p369 : 0 ≤ (x8_1 : Int) := of_decide_eq_true as_
         have q369 : x8_1 < (l0.length : Int) := of_decide_eq_true as_
         obtain ⟨ad369, e369, hx369_0, hx369_1, hx369_2, hx369_3, hx369_4, hx369_5⟩ := at_T28 HR0.out x8_1 p369 q369
         obtain rfl : ad368 = ad369 := (by injection e369)
         replace hx369_0 := cb HB hx369_0; replace hx369_1 := cb HB hx369_1; replace hx369_2 := cb HB hx369_2; replace hx369_3 := cb HB hx369_3; replace hx369_4 := cb HB hx369_4; replace hx369_5 := cb HB hx369_5; replace p369 := eq_true p369; replace q369 := eq_true q369
         go_wp2_with (first | ((with_reducible refine gate_builtin (b := .append) (xs := #[.tmp 41, .tmp 46]) rfl ?_); at_builtin; refine Kd.R_append k28 (w0 := w) w.heap.size rfl (.tmp 41) (.tmp 46) 22 28 (.agg #[(.string ⟨#[]⟩), (.string ⟨#[]⟩), (.string ⟨#[]⟩), (.string ⟨#[]⟩), (.int .i64 0), (.int .i64 0)]) 80 rfl Try.underlying22 info28 rfl (by decide) (by omega) u7 x7_1 (⟨(⟨(rd_T28 l0 x8_1).f0.f0, (rd_T28 l0 x8_1).f0.f1, (rd_T28 l0 x8_1).f0.f2, (rd_T28 l0 x8_1).f0.f3, (rd_T28 l0 x8_1).f0.f4⟩ : S24), (rd_T28 l0 x8_1).f1⟩ : S28) [.string ((rd_T28 l0 x8_1).f0.f0), .string ((rd_T28 l0 x8_1).f0.f1), .string ((rd_T28 l0 x8_1).f0.f2), .string ((rd_T28 l0 x8_1).f0.f3), .int .i64 ((rd_T28 l0 x8_1).f0.f4), .int .i64 ((rd_T28 l0 x8_1).f1)] (fun _ => True) (fun _ => False) rfl rfl ?aP (fun _ hk => hk.elim) ?aF ?aO ?aB ?aS ?aL ?_; (case aP => exact k28_mkM _ _ _ (⟨(⟨(rd_T28 l0 x8_1).f0.f0, (rd_T28 l0 x8_1).f0.f1, (rd_T28 l0 x8_1).f0.f2, (rd_T28 l0 x8_1).f0.f3, (rd_T28 l0 x8_1).f0.f4⟩ : S24), (rd_T28 l0 x8_1).f1⟩ : S28)); (case aB => exact bw); (case aF => exact (fun _ _ => trivial)); (case aO => exact (kr HO_7)); (case aS => exact (below_size bw)); (case aL => have := LMc12.out; omega); intro v371 w13 ho hb hg hat; rw [← Ny370.out] at ho; have n0_ := Aside0.mk (hb); have n1_ := Aside0.mk (ho); clear HB; clear HO_7; have HB := n0_; have HO372 := n1_; clear n0_ n1_; clear ho hb hg hat))
         go_roundg k1
         case measure => have := HK1.out; omega
         case rel => exact ⟨(y370), (wrap64 (x8_1 + 1)), rs_, H', ⟨by have := HK1.out; omega⟩, ⟨kr HO372⟩, ⟨bw⟩⟩
        ·rw [if_neg c12] at H
         exact absurd H (by simp)
       ·rw [if_neg c11] at H
        have c11b0 : (((rd_T28 l0 x8_1).f0.f4) == a2) = false := beq_eq_false_iff_ne.mpr c11
        have c11b1 : (((rd_T28 l0 x8_1).f0.f4) != a2) = true := bne_iff_ne.mpr c11
        have H' := Aside0.mk H
        clear H
        have p368 : 0 ≤ (x8_1 : Int) := of_decide_eq_true as_
        have q368 : x8_1 < (l0.length : Int) := of_decide_eq_true as_
        obtain ⟨ad368, e368, hx368_0, hx368_1, hx368_2, hx368_3, hx368_4, hx368_5⟩ := at_T28 HR0.out x8_1 p368 q368
        cases e368; replace hx368_0 := cb HB hx368_0; replace hx368_1 := cb HB hx368_1; replace hx368_2 := cb HB hx368_2; replace hx368_3 := cb HB hx368_3; replace hx368_4 := cb HB hx368_4; replace hx368_5 := cb HB hx368_5; replace p368 := eq_true p368; replace q368 := eq_true q368; go_wp2
        go_roundg k1
        case measure => have := HK1.out; omega
        case rel => exact ⟨(x7_1), (wrap64 (x8_1 + 1)), rs_, H', ⟨by have := HK1.out; omega⟩, ⟨kr HO_7⟩, ⟨bw⟩⟩
      ·rw [if_neg c10] at H
       exact absurd H (by simp)
    ·rw [if_neg c5] at H
     have c5b0 : (a1.toList == ([] : List UInt8)) = false := beq_eq_false_iff_ne.mpr c5
     have c5b1 : (a1.toList != ([] : List UInt8)) = true := bne_iff_ne.mpr c5
     by_cases c14 : 0 ≤ x8_1
     ·rw [if_pos c14] at H
      have c14b0 : decide (0 ≤ x8_1) = true := decide_eq_true c14
      clear c14
      by_cases c15 : ((rd_T28 l0 x8_1).f0.f0).toList = a1.toList
      ·rw [if_pos c15] at H
       have c15b0 : (((rd_T28 l0 x8_1).f0.f0).toList == a1.toList) = true := beq_iff_eq.mpr c15
       have c15b1 : (((rd_T28 l0 x8_1).f0.f0).toList != a1.toList) = false := bne_eq_false_iff_eq.mpr c15
       clear c15
       by_cases c16 : a2 < 0
       ·rw [if_pos c16] at H
        have c16b0 : decide (a2 < 0) = true := decide_eq_true c16
        clear c16
        by_cases c17 : x7_1.length < 1759218604441
        ·rw [if_pos c17] at H; have LMc17 := Aside0.mk c17; clear c17
         obtain ⟨y375, hy375⟩ : ∃ y_ : List (S28), y_ = (x7_1 ++ [(⟨(⟨(rd_T28 l0 x8_1).f0.f0, (rd_T28 l0 x8_1).f0.f1, (rd_T28 l0 x8_1).f0.f2, (rd_T28 l0 x8_1).f0.f3, (rd_T28 l0 x8_1).f0.f4⟩ : S24), (rd_T28 l0 x8_1).f1⟩ : S28)]) := ⟨_, rfl⟩
         replace H : (comptrollerref09_Pick.l0 k1 l0 a1 a2 y375 (wrap64 (x8_1 + 1))) = some r := rh hy375 H
         have Ny375 := Aside0.mk hy375; clear hy375
         have H' := Aside0.mk H
         clear H
         have p373 : 0 ≤ (x8_1 : Int) := of_decide_eq_true as_
         have q373 : x8_1 < (l0.length : Int) := of_decide_eq_true as_
         obtain ⟨ad373, e373, hx373_0, hx373_1, hx373_2, hx373_3, hx373_4, hx373_5⟩ := at_T28 HR0.out x8_1 p373 q373
         cases e373; replace hx373_0 := cb HB hx373_0; replace hx373_1 := cb HB hx373_1; replace hx373_2 := cb HB hx373_2; replace hx373_3 := cb HB hx373_3; replace hx373_4 := cb HB hx373_4; replace hx373_5 := cb HB hx373_5; replace p373 := eq_true p373; replace q373 := eq_true q373
         have p374 : 0 ≤ (x8_1 : Int) := of_decide_eq_true as_
         have q374 : x8_1 < (l0.length : Int) := of_decide_eq_true as_
         obtain ⟨ad374, e374, hx374_0, hx374_1, hx374_2, hx374_3, hx374_4, hx374_5⟩ := at_T28 HR0.out x8_1 p374 q374
         obtain rfl : ad373 = ad374 := (by injection e374)
         replace hx374_0 := cb HB hx374_0; replace hx374_1 := cb HB hx374_1; replace hx374_2 := cb HB hx374_2; replace hx374_3 := cb HB hx374_3; replace hx374_4 := cb HB hx374_4; replace hx374_5 := cb HB hx374_5; replace p374 := eq_true p374; replace q374 := eq_true q374
         go_wp2_with (first | ((with_reducible refine gate_builtin (b := .append) (xs := #[.tmp 41, .tmp 46]) rfl ?_); at_builtin; refine Kd.R_append k28 (w0 := w) w.heap.size rfl (.tmp 41) (.tmp 46) 22 28 (.agg #[(.string ⟨#[]⟩), (.string ⟨#[]⟩), (.string ⟨#[]⟩), (.string ⟨#[]⟩), (.int .i64 0), (.int .i64 0)]) 80 rfl Try.underlying22 info28 rfl (by decide) (by omega) u7 x7_1 (⟨(⟨(rd_T28 l0 x8_1).f0.f0, (rd_T28 l0 x8_1).f0.f1, (rd_T28 l0 x8_1).f0.f2, (rd_T28 l0 x8_1).f0.f3, (rd_T28 l0 x8_1).f0.f4⟩ : S24), (rd_T28 l0 x8_1).f1⟩ : S28) [.string ((rd_T28 l0 x8_1).f0.f0), .string ((rd_T28 l0 x8_1).f0.f1), .string ((rd_T28 l0 x8_1).f0.f2), .string ((rd_T28 l0 x8_1).f0.f3), .int .i64 ((rd_T28 l0 x8_1).f0.f4), .int .i64 ((rd_T28 l0 x8_1).f1)] (fun _ => True) (fun _ => False) rfl rfl ?aP (fun _ hk => hk.elim) ?aF ?aO ?aB ?aS ?aL ?_; (case aP => exact k28_mkM _ _ _ (⟨(⟨(rd_T28 l0 x8_1).f0.f0, (rd_T28 l0 x8_1).f0.f1, (rd_T28 l0 x8_1).f0.f2, (rd_T28 l0 x8_1).f0.f3, (rd_T28 l0 x8_1).f0.f4⟩ : S24), (rd_T28 l0 x8_1).f1⟩ : S28)); (case aB => exact bw); (case aF => exact (fun _ _ => trivial)); (case aO => exact (kr HO_7)); (case aS => exact (below_size bw)); (case aL => have := LMc17.out; omega); intro v376 w18 ho hb hg hat; rw [← Ny375.out] at ho; have n0_ := Aside0.mk (hb); have n1_ := Aside0.mk (ho); clear HB; clear HO_7; have HB := n0_; have HO377 := n1_; clear n0_ n1_; clear ho hb hg hat))
         go_roundg k1
         case measure => have := HK1.out; omega
         case rel => exact ⟨(y375), (wrap64 (x8_1 + 1)), rs_, H', ⟨by have := HK1.out; omega⟩, ⟨kr HO377⟩, ⟨bw⟩⟩
        ·rw [if_neg c17] at H
         exact absurd H (by simp)
       ·rw [if_neg c16] at H
        have c16b0 : decide (a2 < 0) = false := decide_eq_false c16
        clear c16
        by_cases c19 : ((rd_T28 l0 x8_1).f0.f4) = a2
        ·rw [if_pos c19] at H
         have c19b0 : (((rd_T28 l0 x8_1).f0.f4) == a2) = true := beq_iff_eq.mpr c19
         have c19b1 : (((rd_T28 l0 x8_1).f0.f4) != a2) = false := bne_eq_false_iff_eq.mpr c19
         clear c19
         by_cases c20 : x7_1.length < 1759218604441
         ·rw [if_pos c20] at H; have LMc20 := Aside0.mk c20; clear c20
          obtain ⟨y380, hy380⟩ : ∃ y_ : List (S28), y_ = (x7_1 ++ [(⟨(⟨(rd_T28 l0 x8_1).f0.f0, (rd_T28 l0 x8_1).f0.f1, (rd_T28 l0 x8_1).f0.f2, (rd_T28 l0 x8_1).f0.f3, (rd_T28 l0 x8_1).f0.f4⟩ : S24), (rd_T28 l0 x8_1).f1⟩ : S28)]) := ⟨_, rfl⟩
          replace H : (comptrollerref09_Pick.l0 k1 l0 a1 a2 y380 (wrap64 (x8_1 + 1))) = some r := rh hy380 H
          have Ny380 := Aside0.mk hy380; clear hy380
          have H' := Aside0.mk H
          clear H
          have p373 : 0 ≤ (x8_1 : Int) := of_decide_eq_true as_
          have q373 : x8_1 < (l0.length : Int) := of_decide_eq_true as_
          obtain ⟨ad373, e373, hx373_0, hx373_1, hx373_2, hx373_3, hx373_4, hx373_5⟩ := at_T28 HR0.out x8_1 p373 q373
          cases e373; replace hx373_0 := cb HB hx373_0; replace hx373_1 := cb HB hx373_1; replace hx373_2 := cb HB hx373_2; replace hx373_3 := cb HB hx373_3; replace hx373_4 := cb HB hx373_4; replace hx373_5 := cb HB hx373_5; replace p373 := eq_true p373; replace q373 := eq_true q373
          have p378 : 0 ≤ (x8_1 : Int) := of_decide_eq_true as_
          have q378 : x8_1 < (l0.length : Int) := of_decide_eq_true as_
          obtain ⟨ad378, e378, hx378_0, hx378_1, hx378_2, hx378_3, hx378_4, hx378_5⟩ := at_T28 HR0.out x8_1 p378 q378
          obtain rfl : ad373 = ad378 := (by injection e378)
          replace hx378_0 := cb HB hx378_0; replace hx378_1 := cb HB hx378_1; replace hx378_2 := cb HB hx378_2; replace hx378_3 := cb HB hx378_3; replace hx378_4 := cb HB hx378_4; replace hx378_5 := cb HB hx378_5; replace p378 := eq_true p378; replace q378 := eq_true q378
          have p379 : 0 ≤ (x8_1 : Int) := of_decide_eq_true as_
          have q379 : x8_1 < (l0.length : Int) := of_decide_eq_true as_
          obtain ⟨ad379, e379, hx379_0, hx379_1, hx379_2, hx379_3, hx379_4, hx379_5⟩ := at_T28 HR0.out x8_1 p379 q379
          obtain rfl : ad373 = ad379 := (by injection e379)
          replace hx379_0 := cb HB hx379_0; replace hx379_1 := cb HB hx379_1; replace hx379_2 := cb HB hx379_2; replace hx379_3 := cb HB hx379_3; replace hx379_4 := cb HB hx379_4; replace hx379_5 := cb HB hx379_5; replace p379 := eq_true p379; replace q379 := eq_true q379
          go_wp2_with (first | ((with_reducible refine gate_builtin (b := .append) (xs := #[.tmp 41, .tmp 46]) rfl ?_); at_builtin; refine Kd.R_append k28 (w0 := w) w.heap.size rfl (.tmp 41) (.tmp 46) 22 28 (.agg #[(.string ⟨#[]⟩), (.string ⟨#[]⟩), (.string ⟨#[]⟩), (.string ⟨#[]⟩), (.int .i64 0), (.int .i64 0)]) 80 rfl Try.underlying22 info28 rfl (by decide) (by omega) u7 x7_1 (⟨(⟨(rd_T28 l0 x8_1).f0.f0, (rd_T28 l0 x8_1).f0.f1, (rd_T28 l0 x8_1).f0.f2, (rd_T28 l0 x8_1).f0.f3, (rd_T28 l0 x8_1).f0.f4⟩ : S24), (rd_T28 l0 x8_1).f1⟩ : S28) [.string ((rd_T28 l0 x8_1).f0.f0), .string ((rd_T28 l0 x8_1).f0.f1), .string ((rd_T28 l0 x8_1).f0.f2), .string ((rd_T28 l0 x8_1).f0.f3), .int .i64 ((rd_T28 l0 x8_1).f0.f4), .int .i64 ((rd_T28 l0 x8_1).f1)] (fun _ => True) (fun _ => False) rfl rfl ?aP (fun _ hk => hk.elim) ?aF ?aO ?aB ?aS ?aL ?_; (case aP => exact k28_mkM _ _ _ (⟨(⟨(rd_T28 l0 x8_1).f0.f0, (rd_T28 l0 x8_1).f0.f1, (rd_T28 l0 x8_1).f0.f2, (rd_T28 l0 x8_1).f0.f3, (rd_T28 l0 x8_1).f0.f4⟩ : S24), (rd_T28 l0 x8_1).f1⟩ : S28)); (case aB => exact bw); (case aF => exact (fun _ _ => trivial)); (case aO => exact (kr HO_7)); (case aS => exact (below_size bw)); (case aL => have := LMc20.out; omega); intro v381 w21 ho hb hg hat; rw [← Ny380.out] at ho; have n0_ := Aside0.mk (hb); have n1_ := Aside0.mk (ho); clear HB; clear HO_7; have HB := n0_; have HO382 := n1_; clear n0_ n1_; clear ho hb hg hat))
          go_roundg k1
          case measure => have := HK1.out; omega
          case rel => exact ⟨(y380), (wrap64 (x8_1 + 1)), rs_, H', ⟨by have := HK1.out; omega⟩, ⟨kr HO382⟩, ⟨bw⟩⟩
         ·rw [if_neg c20] at H
          exact absurd H (by simp)
        ·rw [if_neg c19] at H
         have c19b0 : (((rd_T28 l0 x8_1).f0.f4) == a2) = false := beq_eq_false_iff_ne.mpr c19
         have c19b1 : (((rd_T28 l0 x8_1).f0.f4) != a2) = true := bne_iff_ne.mpr c19
         have H' := Aside0.mk H
         clear H
         have p373 : 0 ≤ (x8_1 : Int) := of_decide_eq_true as_
         have q373 : x8_1 < (l0.length : Int) := of_decide_eq_true as_
         obtain ⟨ad373, e373, hx373_0, hx373_1, hx373_2, hx373_3, hx373_4, hx373_5⟩ := at_T28 HR0.out x8_1 p373 q373
         cases e373; replace hx373_0 := cb HB hx373_0; replace hx373_1 := cb HB hx373_1; replace hx373_2 := cb HB hx373_2; replace hx373_3 := cb HB hx373_3; replace hx373_4 := cb HB hx373_4; replace hx373_5 := cb HB hx373_5; replace p373 := eq_true p373; replace q373 := eq_true q373
         have p378 : 0 ≤ (x8_1 : Int) := of_decide_eq_true as_
         have q378 : x8_1 < (l0.length : Int) := of_decide_eq_true as_
         obtain ⟨ad378, e378, hx378_0, hx378_1, hx378_2, hx378_3, hx378_4, hx378_5⟩ := at_T28 HR0.out x8_1 p378 q378
         obtain rfl : ad373 = ad378 := (by injection e378)
         replace hx378_0 := cb HB hx378_0; replace hx378_1 := cb HB hx378_1; replace hx378_2 := cb HB hx378_2; replace hx378_3 := cb HB hx378_3; replace hx378_4 := cb HB hx378_4; replace hx378_5 := cb HB hx378_5; replace p378 := eq_true p378; replace q378 := eq_true q378; go_wp2
         go_roundg k1
         case measure => have := HK1.out; omega
         case rel => exact ⟨(x7_1), (wrap64 (x8_1 + 1)), rs_, H', ⟨by have := HK1.out; omega⟩, ⟨kr HO_7⟩, ⟨bw⟩⟩
      ·rw [if_neg c15] at H
       have c15b0 : (((rd_T28 l0 x8_1).f0.f0).toList == a1.toList) = false := beq_eq_false_iff_ne.mpr c15
       have c15b1 : (((rd_T28 l0 x8_1).f0.f0).toList != a1.toList) = true := bne_iff_ne.mpr c15
       have H' := Aside0.mk H
       clear H
       have p373 : 0 ≤ (x8_1 : Int) := of_decide_eq_true as_
       have q373 : x8_1 < (l0.length : Int) := of_decide_eq_true as_
       obtain ⟨ad373, e373, hx373_0, hx373_1, hx373_2, hx373_3, hx373_4, hx373_5⟩ := at_T28 HR0.out x8_1 p373 q373
       cases e373; replace hx373_0 := cb HB hx373_0; replace hx373_1 := cb HB hx373_1; replace hx373_2 := cb HB hx373_2; replace hx373_3 := cb HB hx373_3; replace hx373_4 := cb HB hx373_4; replace hx373_5 := cb HB hx373_5; replace p373 := eq_true p373; replace q373 := eq_true q373; go_wp2
       go_roundg k1
       case measure => have := HK1.out; omega
       case rel => exact ⟨(x7_1), (wrap64 (x8_1 + 1)), rs_, H', ⟨by have := HK1.out; omega⟩, ⟨kr HO_7⟩, ⟨bw⟩⟩
     ·rw [if_neg c14] at H
      exact absurd H (by simp)
   ·rw [if_neg c4] at H
    have c4b0 : decide (x8_1 < (l0.length : Int)) = false := decide_eq_false c4
    clear c4
    obtain rfl := Option.some.inj H
    go_wp2; go_ret
    exact ⟨_, by first | rfl | (simp [errW_none, errW_some] <;> rfl) | (simp [*, errW_none, errW_some] <;> rfl), kr HO_7, bw⟩

end Go.Proofs.Ytdckeflggcefbaa.Y
namespace Go.Proofs.Ytdckeflggcefbaa.Y
open Go.RowKit Go.Proofs.YtdckeflggcefbaaW.PrintWords Go.Proofs.YtdckeflggcefbaaW.PrintLast Go.Proofs.YtdckeflggcefbaaW.PrintMore
attribute [local go_sem] max2_int min2_int max_two min_two max_three min_three max_four min_four
set_option linter.unusedVariables false
set_option linter.unusedSimpArgs false

attribute [local go_sem high] eqA24
/-! ### comptrollerref09_Get: function 17 -/
def comptrollerref09_Get.l0 : Nat → List (S28) → Int → ByteArray → ByteArray → ByteArray → ByteArray → Int → Option (Int)
 | 0, _, _, _, _, _, _, _ => none
 | k + 1, x0, x5, x362000, x362001, x362002, x362003, x362004 => if x5 < (x0.length : Int) then (if 0 ≤ x5 then (if ((((rd_T28 x0 x5).f0.f0).toList) == x362000.toList && ((((rd_T28 x0 x5).f0.f1).toList) == x362001.toList && ((((rd_T28 x0 x5).f0.f2).toList) == x362002.toList && ((((rd_T28 x0 x5).f0.f3).toList) == x362003.toList && (((rd_T28 x0 x5).f0.f4) == x362004))))) = true then (some ((rd_T28 x0 x5).f1)) else (comptrollerref09_Get.l0 k x0 (wrap64 (x5 + 1)) x362000 x362001 x362002 x362003 x362004)) else (none)) else (some 0)
def comptrollerref09_Get.f (k : Nat) (l0 : List (S28)) (a1_0 : ByteArray) (a1_1 : ByteArray) (a1_2 : ByteArray) (a1_3 : ByteArray) (a1_4 : Int) : Option (Int) := comptrollerref09_Get.l0 k l0 0 a1_0 a1_1 a1_2 a1_3 a1_4
theorem comptrollerref09_Get.mono_l : ∀ k, (∀ y0 y1 y2 y3 y4 y5 y6, LeO (comptrollerref09_Get.l0 k y0 y1 y2 y3 y4 y5 y6) (comptrollerref09_Get.l0 (k + 1) y0 y1 y2 y3 y4 y5 y6))
 | 0 => fun _ _ _ _ _ _ _ r h => by simp [comptrollerref09_Get.l0] at h
 | k + 1 => by
  have ih0 := comptrollerref09_Get.mono_l k
  ·intro y0 y1 y2 y3 y4 y5 y6
   unfold comptrollerref09_Get.l0
   with_reducible repeat' first | apply ih0 | refine LeO.refl _ | refine LeO.none _ | refine LeO.ite ?_ ?_ | refine LeO.bind ?_ (fun _ => ?_)
theorem comptrollerref09_Get.mono : ∀ a0 a1 a2 a3 a4 a5 k, LeO (comptrollerref09_Get.f k a0 a1 a2 a3 a4 a5) (comptrollerref09_Get.f (k + 1) a0 a1 a2 a3 a4 a5) := by
 intro a0 a1 a2 a3 a4 a5 k
 have ih0 := comptrollerref09_Get.mono_l k
 unfold comptrollerref09_Get.f
 with_reducible repeat' first | apply ih0 | refine LeO.refl _ | refine LeO.none _ | refine LeO.ite ?_ ?_ | refine LeO.bind ?_ (fun _ => ?_)
set_option maxHeartbeats 8000000 in
set_option maxRecDepth 100000 in
theorem comptrollerref09_Get.calls (k : Nat) (A0 : Option Addr) (c0 : Nat) (l0 : List (S28)) (a1_0 : ByteArray) (a1_1 : ByteArray) (a1_2 : ByteArray) (a1_3 : ByteArray) (a1_4 : Int) (r : Int) (w : World) (hr0 : Kd.C k28 w A0 l0.length l0) (hc0 : l0.length ≤ c0) (h : comptrollerref09_Get.f k l0 a1_0 a1_1 a1_2 a1_3 a1_4 = some r) :
  Calls Try.prog 17 #[.slice A0 l0.length c0, .agg #[.string a1_0, .string a1_1, .string a1_2, .string a1_3, .int .i64 a1_4]] w fun e w' => e = .returned (.int .i64 r) ∧ Below w.heap.size w w' := by
 have hu24 := Try.underlying24; have HR0 := Aside0.mk hr0; have HC0 := Aside0.mk hc0; clear hr0 hc0
 have HB := Aside0.mk (Below.refl w.heap.size w)
 have H : (comptrollerref09_Get.l0 k l0 0 a1_0 a1_1 a1_2 a1_3 a1_4) = some r := h
 clear h
 have H' := Aside0.mk H
 clear H
 go_enter Try.func17, Try.ntmps17
 go_wp2_with (first | ((with_reducible refine gate_dst (N := 3) rfl ?_); refine box_event ?hg (N := 3) ?hd (cs := #[.string a1_0, .string a1_1, .string a1_2, .string a1_3, .int .i64 a1_4]) (t := 24) ?hr ?_; (case hd => rfl); (case hg => rfl); (case hr => first | (go_simp; done) | (go_simp; rfl)); intro gb361 hg w3 hbox hb; have n0_ := Aside0.mk (below_step bw hb); have n1_ := Aside0.mk (hbox); have n2_ := Aside0.mk ((by rw [hg]; exact (below_size bw) : w.heap.size ≤ gb361)); have n3_ := Aside0.mk ((by rw [hg]; exact (below_size bw) : w.heap.size ≤ gb361)); clear HB; have HB := n0_; have BK361 := n1_; have GW361 := n2_; have GE361 := n3_; clear n0_ n1_ n2_ n3_; clear hb hbox hg))
 repeat (go_quiet (first | ((with_reducible refine gate_dst (N := 3) rfl ?_); refine box_event ?hg (N := 3) ?hd (cs := #[.string a1_0, .string a1_1, .string a1_2, .string a1_3, .int .i64 a1_4]) (t := 24) ?hr ?_; (case hd => rfl); (case hg => rfl); (case hr => first | (go_simp; done) | (go_simp; rfl)); intro gb361 hg w3 hbox hb; have n0_ := Aside0.mk (below_step bw hb); have n1_ := Aside0.mk (hbox); have n2_ := Aside0.mk ((by rw [hg]; exact (below_size bw) : w.heap.size ≤ gb361)); have n3_ := Aside0.mk ((by rw [hg]; exact (below_size bw) : w.heap.size ≤ gb361)); clear HB; have HB := n0_; have BK361 := n1_; have GW361 := n2_; have GE361 := n3_; clear n0_ n1_ n2_ n3_; clear hb hbox hg)); try go_wp2_with (first | ((with_reducible refine gate_dst (N := 3) rfl ?_); refine box_event ?hg (N := 3) ?hd (cs := #[.string a1_0, .string a1_1, .string a1_2, .string a1_3, .int .i64 a1_4]) (t := 24) ?hr ?_; (case hd => rfl); (case hg => rfl); (case hr => first | (go_simp; done) | (go_simp; rfl)); intro gb361 hg w3 hbox hb; have n0_ := Aside0.mk (below_step bw hb); have n1_ := Aside0.mk (hbox); have n2_ := Aside0.mk ((by rw [hg]; exact (below_size bw) : w.heap.size ≤ gb361)); have n3_ := Aside0.mk ((by rw [hg]; exact (below_size bw) : w.heap.size ≤ gb361)); clear HB; have HB := n0_; have BK361 := n1_; have GW361 := n2_; have GE361 := n3_; clear n0_ n1_ n2_ n3_; clear hb hbox hg)))
 go_loopg [5] k (fun kq v5 w' => ∃ (x5_1 : Int), v5 = .int .i64 x5_1 ∧ Aside0 (comptrollerref09_Get.l0 kq l0 x5_1 a1_0 a1_1 a1_2 a1_3 a1_4 = some r) ∧ Aside0 (kq ≤ k) ∧ Aside0 (w'.heap[gb361]? = some (.cells #[.string a1_0, .string a1_1, .string a1_2, .string a1_3, .int .i64 a1_4] 24 (0, 0))) ∧ Aside0 (Below w.heap.size w w'))
 case atStart => exact ⟨(0), rs_, H', ⟨Nat.le_refl _⟩, ⟨by (with_reducible repeat (first | refine blk_drewN ?_ _ | refine blk_drew ?_ | refine blk_alloc ?_ _)); exact BK361.out⟩, ⟨bx⟩⟩
 case round =>
  clear H'
  (try clear c1); (try clear p2)
  obtain ⟨x5_1, rfl, HA, HK1, BK361, HB⟩ := hrel
  cases gk with
  | zero => exact absurd HA.out (by simp [comptrollerref09_Get.l0])
  | succ k1 =>
   have H := HA.out; clear HA
   simp only [comptrollerref09_Get.l0] at H
   by_cases c4 : x5_1 < (l0.length : Int)
   ·rw [if_pos c4] at H
    have c4b0 : decide (x5_1 < (l0.length : Int)) = true := decide_eq_true c4
    clear c4
    by_cases c5 : 0 ≤ x5_1
    ·rw [if_pos c5] at H
     have c5b0 : decide (0 ≤ x5_1) = true := decide_eq_true c5
     clear c5
     by_cases c6 : ((((rd_T28 l0 x5_1).f0.f0).toList) == a1_0.toList && ((((rd_T28 l0 x5_1).f0.f1).toList) == a1_1.toList && ((((rd_T28 l0 x5_1).f0.f2).toList) == a1_2.toList && ((((rd_T28 l0 x5_1).f0.f3).toList) == a1_3.toList && (((rd_T28 l0 x5_1).f0.f4) == a1_4))))) = true
     ·rw [if_pos c6] at H
      have c6b0 : ((((rd_T28 l0 x5_1).f0.f0).toList) == a1_0.toList && ((((rd_T28 l0 x5_1).f0.f1).toList) == a1_1.toList && ((((rd_T28 l0 x5_1).f0.f2).toList) == a1_2.toList && ((((rd_T28 l0 x5_1).f0.f3).toList) == a1_3.toList && (((rd_T28 l0 x5_1).f0.f4) == a1_4))))) = true := c6
      (try (have c6b1 : decide ((((rd_T28 l0 x5_1).f0.f0).toList) = a1_0.toList && ((((rd_T28 l0 x5_1).f0.f1).toList) == a1_1.toList && ((((rd_T28 l0 x5_1).f0.f2).toList) == a1_2.toList && ((((rd_T28 l0 x5_1).f0.f3).toList) == a1_3.toList && (((rd_T28 l0 x5_1).f0.f4) == a1_4))))) = true := by simpa using c6))
      (try (have c6b2 : ((((rd_T28 l0 x5_1).f0.f0).toList) == a1_0.toList && ((((rd_T28 l0 x5_1).f0.f1).toList) == a1_1.toList && ((((rd_T28 l0 x5_1).f0.f2).toList) == a1_2.toList && ((((rd_T28 l0 x5_1).f0.f3).toList) == a1_3.toList && (((rd_T28 l0 x5_1).f0.f4) == a1_4))))) = true := by simpa using c6))
      clear c6
      obtain rfl := Option.some.inj H
      have p362 : 0 ≤ (x5_1 : Int) := of_decide_eq_true as_
      have q362 : x5_1 < (l0.length : Int) := of_decide_eq_true as_
      obtain ⟨ad362, e362, hx362_0, hx362_1, hx362_2, hx362_3, hx362_4, hx362_5⟩ := at_T28 HR0.out x5_1 p362 q362
      cases e362; replace hx362_0 := cb HB hx362_0; replace hx362_1 := cb HB hx362_1; replace hx362_2 := cb HB hx362_2; replace hx362_3 := cb HB hx362_3; replace hx362_4 := cb HB hx362_4; replace hx362_5 := cb HB hx362_5; replace p362 := eq_true p362; replace q362 := eq_true q362
      have hcz7_0 : wr.cell? ⟨gb361, 0, none⟩ = some (.string a1_0) := (blk_cell BK361.out 0).trans rfl
      have hcz7_1 : wr.cell? ⟨gb361, 1, none⟩ = some (.string a1_1) := (blk_cell BK361.out 1).trans rfl
      have hcz7_2 : wr.cell? ⟨gb361, 2, none⟩ = some (.string a1_2) := (blk_cell BK361.out 2).trans rfl
      have hcz7_3 : wr.cell? ⟨gb361, 3, none⟩ = some (.string a1_3) := (blk_cell BK361.out 3).trans rfl
      have hcz7_4 : wr.cell? ⟨gb361, 4, none⟩ = some (.int .i64 a1_4) := (blk_cell BK361.out 4).trans rfl
      have hfz7_0 := blk_frozen BK361.out 0
      have hfz7_1 := blk_frozen BK361.out 1
      have hfz7_2 := blk_frozen BK361.out 2
      have hfz7_3 := blk_frozen BK361.out 3
      have hfz7_4 := blk_frozen BK361.out 4
      have p363 : 0 ≤ (x5_1 : Int) := of_decide_eq_true as_
      have q363 : x5_1 < (l0.length : Int) := of_decide_eq_true as_
      obtain ⟨ad363, e363, hx363_0, hx363_1, hx363_2, hx363_3, hx363_4, hx363_5⟩ := at_T28 HR0.out x5_1 p363 q363
      obtain rfl : ad362 = ad363 := (by injection e363)
      replace hx363_0 := cb HB hx363_0; replace hx363_1 := cb HB hx363_1; replace hx363_2 := cb HB hx363_2; replace hx363_3 := cb HB hx363_3; replace hx363_4 := cb HB hx363_4; replace hx363_5 := cb HB hx363_5; replace p363 := eq_true p363; replace q363 := eq_true q363; go_wp2
      repeat (go_quiet (fail); try go_wp2)
      go_ret
      exact ⟨re_, bx⟩
     ·rw [if_neg c6] at H
      have c6b0 : ((((rd_T28 l0 x5_1).f0.f0).toList) == a1_0.toList && ((((rd_T28 l0 x5_1).f0.f1).toList) == a1_1.toList && ((((rd_T28 l0 x5_1).f0.f2).toList) == a1_2.toList && ((((rd_T28 l0 x5_1).f0.f3).toList) == a1_3.toList && (((rd_T28 l0 x5_1).f0.f4) == a1_4))))) = false := by simpa using c6
      (try (have c6b1 : decide ((((rd_T28 l0 x5_1).f0.f0).toList) = a1_0.toList && ((((rd_T28 l0 x5_1).f0.f1).toList) == a1_1.toList && ((((rd_T28 l0 x5_1).f0.f2).toList) == a1_2.toList && ((((rd_T28 l0 x5_1).f0.f3).toList) == a1_3.toList && (((rd_T28 l0 x5_1).f0.f4) == a1_4))))) = false := by simpa using c6))
      (try (have c6b2 : ((((rd_T28 l0 x5_1).f0.f0).toList) == a1_0.toList && ((((rd_T28 l0 x5_1).f0.f1).toList) == a1_1.toList && ((((rd_T28 l0 x5_1).f0.f2).toList) == a1_2.toList && ((((rd_T28 l0 x5_1).f0.f3).toList) == a1_3.toList && (((rd_T28 l0 x5_1).f0.f4) == a1_4))))) = false := by simpa using c6))
      (try (have c6b3 : ¬ ((((rd_T28 l0 x5_1).f0.f0).toList) = a1_0.toList && ((((rd_T28 l0 x5_1).f0.f1).toList) == a1_1.toList && ((((rd_T28 l0 x5_1).f0.f2).toList) == a1_2.toList && ((((rd_T28 l0 x5_1).f0.f3).toList) == a1_3.toList && (((rd_T28 l0 x5_1).f0.f4) == a1_4))))) := by simpa using c6))
      clear c6
      have H' := Aside0.mk H
      clear H
      have p362 : 0 ≤ (x5_1 : Int) := of_decide_eq_true as_
      have q362 : x5_1 < (l0.length : Int) := of_decide_eq_true as_
      obtain ⟨ad362, e362, hx362_0, hx362_1, hx362_2, hx362_3, hx362_4, hx362_5⟩ := at_T28 HR0.out x5_1 p362 q362
      cases e362; replace hx362_0 := cb HB hx362_0; replace hx362_1 := cb HB hx362_1; replace hx362_2 := cb HB hx362_2; replace hx362_3 := cb HB hx362_3; replace hx362_4 := cb HB hx362_4; replace hx362_5 := cb HB hx362_5; replace p362 := eq_true p362; replace q362 := eq_true q362
      have hcz8_0 : wr.cell? ⟨gb361, 0, none⟩ = some (.string a1_0) := (blk_cell BK361.out 0).trans rfl
      have hcz8_1 : wr.cell? ⟨gb361, 1, none⟩ = some (.string a1_1) := (blk_cell BK361.out 1).trans rfl
      have hcz8_2 : wr.cell? ⟨gb361, 2, none⟩ = some (.string a1_2) := (blk_cell BK361.out 2).trans rfl
      have hcz8_3 : wr.cell? ⟨gb361, 3, none⟩ = some (.string a1_3) := (blk_cell BK361.out 3).trans rfl
      have hcz8_4 : wr.cell? ⟨gb361, 4, none⟩ = some (.int .i64 a1_4) := (blk_cell BK361.out 4).trans rfl
      have hfz8_0 := blk_frozen BK361.out 0
      have hfz8_1 := blk_frozen BK361.out 1
      have hfz8_2 := blk_frozen BK361.out 2
      have hfz8_3 := blk_frozen BK361.out 3
      have hfz8_4 := blk_frozen BK361.out 4
      go_wp2
      repeat (go_quiet (fail); try go_wp2)
      go_roundg k1
      case measure => have := HK1.out; omega
      case rel => exact ⟨(wrap64 (x5_1 + 1)), rs_, H', ⟨by have := HK1.out; omega⟩, ⟨by (with_reducible repeat (first | refine blk_drewN ?_ _ | refine blk_drew ?_ | refine blk_alloc ?_ _)); exact BK361.out⟩, ⟨bx⟩⟩
    ·rw [if_neg c5] at H
     exact absurd H (by simp)
   ·rw [if_neg c4] at H
    have c4b0 : decide (x5_1 < (l0.length : Int)) = false := decide_eq_false c4
    clear c4
    obtain rfl := Option.some.inj H
    go_wp2
    repeat (go_quiet (fail); try go_wp2)
    go_ret
    exact ⟨re_, bx⟩

end Go.Proofs.Ytdckeflggcefbaa.Y
namespace Go.Proofs.Ytdckeflggcefbaa.Y
open Go.RowKit Go.Proofs.YtdckeflggcefbaaW.PrintWords Go.Proofs.YtdckeflggcefbaaW.PrintLast Go.Proofs.YtdckeflggcefbaaW.PrintMore
attribute [local go_sem] max2_int min2_int max_two min_two max_three min_three max_four min_four
set_option linter.unusedVariables false
set_option linter.unusedSimpArgs false

/-! ### comptrollerref09_Right: function 8 -/
def comptrollerref09_Right.l0 : Nat → List (S28) → Int → Option (Bool)
 | 0, _, _ => none
 | k + 1, x0, x3 => if x3 < (x0.length : Int) then (if 0 ≤ x3 then (if ((rd_T28 x0 x3).f1) = 0 then (some false) else (if x3 > 0 then (if 0 ≤ (wrap64 (x3 - 1)) then (if (wrap64 (x3 - 1)) < (x0.length : Int) then ((comptrollerref09_Cmp.f k ((rd_T28 x0 (wrap64 (x3 - 1))).f0.f0) ((rd_T28 x0 (wrap64 (x3 - 1))).f0.f1) ((rd_T28 x0 (wrap64 (x3 - 1))).f0.f2) ((rd_T28 x0 (wrap64 (x3 - 1))).f0.f3) ((rd_T28 x0 (wrap64 (x3 - 1))).f0.f4) ((rd_T28 x0 x3).f0.f0) ((rd_T28 x0 x3).f0.f1) ((rd_T28 x0 x3).f0.f2) ((rd_T28 x0 x3).f0.f3) ((rd_T28 x0 x3).f0.f4)).bind fun t250 => (if t250 ≥ 0 then (some false) else (comptrollerref09_Right.l0 k x0 (wrap64 (x3 + 1))))) else (none)) else (none)) else (comptrollerref09_Right.l0 k x0 (wrap64 (x3 + 1))))) else (none)) else (some (decide ((x0.length : Int) ≤ 2000)))
def comptrollerref09_Right.f (k : Nat) (l0 : List (S28)) : Option (Bool) := comptrollerref09_Right.l0 k l0 0
theorem comptrollerref09_Right.mono_l : ∀ k, (∀ y0 y1, LeO (comptrollerref09_Right.l0 k y0 y1) (comptrollerref09_Right.l0 (k + 1) y0 y1))
 | 0 => fun _ _ r h => by simp [comptrollerref09_Right.l0] at h
 | k + 1 => by
  have ih0 := comptrollerref09_Right.mono_l k
  ·intro y0 y1
   unfold comptrollerref09_Right.l0
   with_reducible repeat' first | apply ih0 | apply comptrollerref09_Cmp.mono | refine LeO.refl _ | refine LeO.none _ | refine LeO.ite ?_ ?_ | refine LeO.bind ?_ (fun _ => ?_)
theorem comptrollerref09_Right.mono : ∀ a0 k, LeO (comptrollerref09_Right.f k a0) (comptrollerref09_Right.f (k + 1) a0) := by
 intro a0 k
 have ih0 := comptrollerref09_Right.mono_l k
 unfold comptrollerref09_Right.f
 with_reducible repeat' first | apply ih0 | apply comptrollerref09_Cmp.mono | refine LeO.refl _ | refine LeO.none _ | refine LeO.ite ?_ ?_ | refine LeO.bind ?_ (fun _ => ?_)
def comptrollerref09_Right.T4 : Bool × List (List Nat × List Nat) := (true, [([], []), ([], []), ([0, 1], [0, 1]), ([2], [2]), ([3], [3]), ([4], [4]), ([5], [5]), ([6], [6]), ([7, 6], [6, 7]), ([8, 6, 6], [6, 8]), ([9], [9]), ([9], [9]), ([11, 9], [9, 11]), ([10, 12, 9], [9, 10, 12]), ([13, 9], [9, 13]), ([14, 9], [9, 14]), ([9], [9]), ([9], [9]), ([16, 17, 9], [9, 16, 17]), ([18, 9], [9, 18]), ([19, 9], [9, 19]), ([15, 20, 9, 9], [9, 15, 20]), ([21, 9], [9, 21]), ([9, 22, 6], [6, 9, 22]), ([6, 23], [6, 23])])
def comptrollerref09_Right.B4 : List Nat := [0, 0, 3, 7, 15, 31, 63, 127, 255, 511, 1023, 1023, 3071, 8191, 16383, 32767, 1023, 1023, 197631, 459775, 984063, 2097151, 4194303, 8388607, 16777215]
theorem comptrollerref09_Right.tab4 : rtab .any (opsOf Try.f8 4) = comptrollerref09_Right.T4 := by kernel_rfl
theorem comptrollerref09_Right.bits4 : waitsOk comptrollerref09_Right.T4.2 comptrollerref09_Right.B4 = true := by kernel_rfl
set_option maxHeartbeats 8000000 in
set_option maxRecDepth 100000 in
theorem comptrollerref09_Right.calls (k : Nat) (A0 : Option Addr) (c0 : Nat) (l0 : List (S28)) (r : Bool) (w : World) (hr0 : Kd.C k28 w A0 l0.length l0) (hc0 : l0.length ≤ c0) (h : comptrollerref09_Right.f k l0 = some r) :
  Calls Try.prog 8 #[.slice A0 l0.length c0] w fun e w' => e = .returned (.bool r) ∧ Below w.heap.size w w' := by
 have hu24 := Try.underlying24; have HR0 := Aside0.mk hr0; have HC0 := Aside0.mk hc0; clear hr0 hc0
 have HB := Aside0.mk (Below.refl w.heap.size w)
 have H : (comptrollerref09_Right.l0 k l0 0) = some r := h
 clear h
 have H' := Aside0.mk H
 clear H
 go_enter Try.func8, Try.ntmps8
 go_wp2
 go_loopg [3] k (fun kq v3 w' => ∃ (x3_1 : Int), v3 = .int .i64 x3_1 ∧ Aside0 (comptrollerref09_Right.l0 kq l0 x3_1 = some r) ∧ Aside0 (kq ≤ k) ∧ Aside0 (Below w.heap.size w w'))
 case atStart => exact ⟨(0), rs_, H', ⟨Nat.le_refl _⟩, ⟨bw⟩⟩
 case round =>
  clear H'
  obtain ⟨x3_1, rfl, HA, HK1, HB⟩ := hrel
  cases gk with
  | zero => exact absurd HA.out (by simp [comptrollerref09_Right.l0])
  | succ k1 =>
   have H := HA.out; clear HA
   simp only [comptrollerref09_Right.l0] at H
   by_cases c2 : x3_1 < (l0.length : Int)
   ·rw [if_pos c2] at H
    have c2b0 : decide (x3_1 < (l0.length : Int)) = true := decide_eq_true c2
    clear c2
    by_cases c3 : 0 ≤ x3_1
    ·rw [if_pos c3] at H
     have c3b0 : decide (0 ≤ x3_1) = true := decide_eq_true c3
     clear c3
     by_cases c4 : ((rd_T28 l0 x3_1).f1) = 0
     ·rw [if_pos c4] at H
      have c4b0 : (((rd_T28 l0 x3_1).f1) == 0) = true := beq_iff_eq.mpr c4
      have c4b1 : (((rd_T28 l0 x3_1).f1) != 0) = false := bne_eq_false_iff_eq.mpr c4
      clear c4
      obtain rfl := Option.some.inj H
      try go_wp2
      have n0_ := Aside0.mk (below_drew1 HB.out)
      clear HB; have HB := n0_; clear n0_
      have p247 : 0 ≤ (x3_1 : Int) := of_decide_eq_true as_
      have q247 : x3_1 < (l0.length : Int) := of_decide_eq_true as_
      obtain ⟨ad247, e247, hx247_0, hx247_1, hx247_2, hx247_3, hx247_4, hx247_5⟩ := at_T28 HR0.out x3_1 p247 q247
      have hw247_5 := hx247_5; have hw247_4 := hx247_4; have hw247_3 := hx247_3; have hw247_2 := hx247_2; have hw247_1 := hx247_1; have hw247_0 := hx247_0; cases e247; replace hx247_0 := cb HB hx247_0; replace hx247_1 := cb HB hx247_1; replace hx247_2 := cb HB hx247_2; replace hx247_3 := cb HB hx247_3; replace hx247_4 := cb HB hx247_4; replace hx247_5 := cb HB hx247_5; replace p247 := eq_true p247; replace q247 := eq_true q247
      refine start_ (n := 25) (S := fun w' => w'.cell? (ad247.add ((x3_1).toNat * 6)) = some (.string ((rd_T28 l0 x3_1).f0.f0)) ∧ w'.cell? ⟨(ad247.add ((x3_1).toNat * 6)).block, (ad247.add ((x3_1).toNat * 6)).off + 1, none⟩ = some (.string ((rd_T28 l0 x3_1).f0.f1)) ∧ w'.cell? ⟨(ad247.add ((x3_1).toNat * 6)).block, (ad247.add ((x3_1).toNat * 6)).off + 2, none⟩ = some (.string ((rd_T28 l0 x3_1).f0.f2)) ∧ w'.cell? ⟨(ad247.add ((x3_1).toNat * 6)).block, (ad247.add ((x3_1).toNat * 6)).off + 3, none⟩ = some (.string ((rd_T28 l0 x3_1).f0.f3)) ∧ w'.cell? ⟨(ad247.add ((x3_1).toNat * 6)).block, (ad247.add ((x3_1).toNat * 6)).off + 4, none⟩ = some (.int .i64 ((rd_T28 l0 x3_1).f0.f4)) ∧ w'.cell? ⟨(ad247.add ((x3_1).toNat * 6)).block, (ad247.add ((x3_1).toNat * 6)).off + 5, none⟩ = some (.int .i64 ((rd_T28 l0 x3_1).f1))) (ds := []) (fl 25 0) (by kernel_rfl) rfl rfl ⟨(cb HB hw247_0), (cb HB hw247_1), (cb HB hw247_2), (cb HB hw247_3), (cb HB hw247_4), (cb HB hw247_5)⟩ (fun hHeld => ?_); refine with_tabW comptrollerref09_Right.tab4 comptrollerref09_Right.bits4 (fun HT_ HW_ => ?_)
      generalize wr.drew = w5 at HB hx247_0 hx247_1 hx247_2 hx247_3 hx247_4 hx247_5 hHeld ⊢
      refine pu 0 (some 10) (fl 25 1) HT_ ?_
      refine pu 1 (some 11) (fl 25 3) HT_ ?_
      refine pu 2 (some 12) (fl 25 7) HT_ ?_
      refine pu 3 (some 13) (fl 25 15) HT_ ?_
      refine tu 4 (some 14) (fl 25 31) HT_ HW_ hHeld ?_
      refine pu 5 (some 15) (fl 25 63) HT_ ?_
      refine pu 6 (some 16) (fl 25 127) HT_ ?_
      refine pure_ (i := 7) (N := some 17) (v := undef) (a' := ?_) (fl 25 255) rfl rfl (any_of HT_.out (by kernel_rfl)) (fun _ _ _ h => h) (Or.inr ⟨by rfl, rfl⟩) ?_ ?_
      rotate_left
      ·simp only [Act.put, List.setIfInBounds_toArray, List.set_cons_zero, List.set_cons_succ, i64_w, i32_w]
       rfl
      refine pure_ (i := 8) (N := some 18) (v := undef) (a' := ?_) (fl 25 511) rfl rfl (any_of HT_.out (by kernel_rfl)) (fun _ _ _ h => h) (Or.inr ⟨by rfl, rfl⟩) ?_ ?_
      rotate_left
      ·simp only [Act.put, List.setIfInBounds_toArray, List.set_cons_zero, List.set_cons_succ, i64_w, i32_w]
       rfl
      refine pure_ (i := 9) (N := some 19) (v := undef) (a' := ?_) (fl 25 1023) rfl rfl (any_of HT_.out (by kernel_rfl)) (fun _ _ _ h => h) (Or.inr ⟨by rfl, rfl⟩) ?_ ?_
      rotate_left
      ·simp only [Act.put, List.setIfInBounds_toArray, List.set_cons_zero, List.set_cons_succ, i64_w, i32_w]
       rfl
      refine pure_ (i := 10) (N := some 20) (v := undef) (a' := ?_) (fl 25 2047) rfl rfl (any_of HT_.out (by kernel_rfl)) (fun _ _ _ h => h) (Or.inr ⟨by rfl, rfl⟩) ?_ ?_
      rotate_left
      ·simp only [Act.put, List.setIfInBounds_toArray, List.set_cons_zero, List.set_cons_succ, i64_w, i32_w]
       rfl
      refine pure_ (i := 11) (N := some 21) (v := undef) (a' := ?_) (fl 25 4095) rfl rfl (any_of HT_.out (by kernel_rfl)) (fun _ _ _ h => h) (Or.inr ⟨by rfl, rfl⟩) ?_ ?_
      rotate_left
      ·simp only [Act.put, List.setIfInBounds_toArray, List.set_cons_zero, List.set_cons_succ, i64_w, i32_w]
       rfl
      refine pure_ (i := 12) (N := some 22) (v := undef) (a' := ?_) (fl 25 8191) rfl rfl (any_of HT_.out (by kernel_rfl)) (fun _ _ _ h => h) (Or.inr ⟨by rfl, rfl⟩) ?_ ?_
      rotate_left
      ·simp only [Act.put, List.setIfInBounds_toArray, List.set_cons_zero, List.set_cons_succ, i64_w, i32_w]
       rfl
      refine pure_ (i := 13) (N := some 23) (v := undef) (a' := ?_) (fl 25 16383) rfl rfl (any_of HT_.out (by kernel_rfl)) (fun _ _ _ h => h) (Or.inr ⟨by rfl, rfl⟩) ?_ ?_
      rotate_left
      ·simp only [Act.put, List.setIfInBounds_toArray, List.set_cons_zero, List.set_cons_succ, i64_w, i32_w]
       rfl
      refine pure_ (i := 14) (N := some 24) (v := undef) (a' := ?_) (fl 25 32767) rfl rfl (any_of HT_.out (by kernel_rfl)) (fun _ _ _ h => h) (Or.inr ⟨by rfl, rfl⟩) ?_ ?_
      rotate_left
      ·simp only [Act.put, List.setIfInBounds_toArray, List.set_cons_zero, List.set_cons_succ, i64_w, i32_w]
       rfl
      refine pure_ (i := 15) (N := some 25) (v := undef) (a' := ?_) (fl 25 65535) rfl rfl (any_of HT_.out (by kernel_rfl)) (fun _ _ _ h => h) (Or.inr ⟨by rfl, rfl⟩) ?_ ?_
      rotate_left
      ·simp only [Act.put, List.setIfInBounds_toArray, List.set_cons_zero, List.set_cons_succ, i64_w, i32_w]
       rfl
      refine pure_ (i := 16) (N := some 26) (v := undef) (a' := ?_) (fl 25 131071) rfl rfl (any_of HT_.out (by kernel_rfl)) (fun _ _ _ h => h) (Or.inr ⟨by rfl, rfl⟩) ?_ ?_
      rotate_left
      ·simp only [Act.put, List.setIfInBounds_toArray, List.set_cons_zero, List.set_cons_succ, i64_w, i32_w]
       rfl
      refine pure_ (i := 17) (N := some 27) (v := undef) (a' := ?_) (fl 25 262143) rfl rfl (any_of HT_.out (by kernel_rfl)) (fun _ _ _ h => h) (Or.inr ⟨by rfl, rfl⟩) ?_ ?_
      rotate_left
      ·simp only [Act.put, List.setIfInBounds_toArray, List.set_cons_zero, List.set_cons_succ, i64_w, i32_w]
       rfl
      refine pure_ (i := 18) (N := some 28) (v := undef) (a' := ?_) (fl 25 524287) rfl rfl (any_of HT_.out (by kernel_rfl)) (fun _ _ _ h => h) (Or.inr ⟨by rfl, rfl⟩) ?_ ?_
      rotate_left
      ·simp only [Act.put, List.setIfInBounds_toArray, List.set_cons_zero, List.set_cons_succ, i64_w, i32_w]
       rfl
      refine pure_ (i := 19) (N := some 29) (v := undef) (a' := ?_) (fl 25 1048575) rfl rfl (any_of HT_.out (by kernel_rfl)) (fun _ _ _ h => h) (Or.inr ⟨by rfl, rfl⟩) ?_ ?_
      rotate_left
      ·simp only [Act.put, List.setIfInBounds_toArray, List.set_cons_zero, List.set_cons_succ, i64_w, i32_w]
       rfl
      refine pure_ (i := 20) (N := some 30) (v := undef) (a' := ?_) (fl 25 2097151) rfl rfl (any_of HT_.out (by kernel_rfl)) (fun _ _ _ h => h) (Or.inr ⟨by rfl, rfl⟩) ?_ ?_
      rotate_left
      ·simp only [Act.put, List.setIfInBounds_toArray, List.set_cons_zero, List.set_cons_succ, i64_w, i32_w]
       rfl
      refine pure_ (i := 21) (N := some 31) (v := undef) (a' := ?_) (fl 25 4194303) rfl rfl (any_of HT_.out (by kernel_rfl)) (fun _ _ _ h => h) (Or.inr ⟨by rfl, rfl⟩) ?_ ?_
      rotate_left
      ·simp only [Act.put, List.setIfInBounds_toArray, List.set_cons_zero, List.set_cons_succ, i64_w, i32_w]
       rfl
      refine pure_ (i := 22) (N := some 32) (v := undef) (a' := ?_) (fl 25 8388607) rfl rfl (any_of HT_.out (by kernel_rfl)) (fun _ _ _ h => h) (Or.inr ⟨by rfl, rfl⟩) ?_ ?_
      rotate_left
      ·simp only [Act.put, List.setIfInBounds_toArray, List.set_cons_zero, List.set_cons_succ, i64_w, i32_w]
       rfl
      refine pure_ (i := 23) (N := some 33) (v := undef) (a' := ?_) (fl 25 16777215) rfl rfl (any_of HT_.out (by kernel_rfl)) (fun _ _ _ h => h) (Or.inr ⟨by rfl, rfl⟩) ?_ ?_
      rotate_left
      ·simp only [Act.put, List.setIfInBounds_toArray, List.set_cons_zero, List.set_cons_succ, i64_w, i32_w]
       rfl
      refine pu 24 (some 34) (fl 25 33554431) HT_ ?_
      refine done_ (done_of HT_.out (by kernel_rfl)) ?_
      try go_wp2
      go_ret
      exact ⟨re_, bw⟩
     ·rw [if_neg c4] at H
      have c4b0 : (((rd_T28 l0 x3_1).f1) == 0) = false := beq_eq_false_iff_ne.mpr c4
      have c4b1 : (((rd_T28 l0 x3_1).f1) != 0) = true := bne_iff_ne.mpr c4
      by_cases c6 : x3_1 > 0
      ·rw [if_pos c6] at H
       have c6b0 : decide (0 < x3_1) = true := decide_eq_true c6
       clear c6
       obtain ⟨ji7, hji7⟩ : ∃ j_ : Int, (wrap64 (x3_1 - 1)) = j_ := ⟨_, rfl⟩
       replace H : (if 0 ≤ (ji7) then (if (ji7) < (l0.length : Int) then ((comptrollerref09_Cmp.f k1 ((rd_T28 l0 (ji7)).f0.f0) ((rd_T28 l0 (ji7)).f0.f1) ((rd_T28 l0 (ji7)).f0.f2) ((rd_T28 l0 (ji7)).f0.f3) ((rd_T28 l0 (ji7)).f0.f4) ((rd_T28 l0 x3_1).f0.f0) ((rd_T28 l0 x3_1).f0.f1) ((rd_T28 l0 x3_1).f0.f2) ((rd_T28 l0 x3_1).f0.f3) ((rd_T28 l0 x3_1).f0.f4)).bind fun t250 => (if t250 ≥ 0 then (some false) else (comptrollerref09_Right.l0 k1 l0 (wrap64 (x3_1 + 1))))) else (none)) else (none)) = some r := by first | (rw [hji7] at H; exact H) | (simp only [hji7] at H ⊢; exact H)
       have hji7w : (IntKind.i64.wrap (x3_1 - 1)) = ji7 := (i64_w _).trans hji7
       by_cases c8 : 0 ≤ (ji7)
       ·rw [if_pos c8] at H
        have c8b0 : decide (0 ≤ (ji7)) = true := decide_eq_true c8
        clear c8
        by_cases c9 : (ji7) < (l0.length : Int)
        ·rw [if_pos c9] at H
         have c9b0 : decide ((ji7) < (l0.length : Int)) = true := decide_eq_true c9
         clear c9
         replace H := Option.bind_eq_some_iff.mp H
         obtain ⟨t250, A100, H⟩ := H
         replace H : (if t250 ≥ 0 then (some false) else (comptrollerref09_Right.l0 k1 l0 (wrap64 (x3_1 + 1)))) = some r := H
         have A10 := Aside0.mk A100; clear A100
         by_cases c11 : t250 ≥ 0
         ·rw [if_pos c11] at H
          have c11b0 : decide (0 ≤ t250) = true := decide_eq_true c11
          clear c11
          obtain rfl := Option.some.inj H
          try go_wp2
          have n0_ := Aside0.mk (below_drew1 HB.out)
          clear HB; have HB := n0_; clear n0_
          have p247 : 0 ≤ (x3_1 : Int) := of_decide_eq_true as_
          have q247 : x3_1 < (l0.length : Int) := of_decide_eq_true as_
          obtain ⟨ad247, e247, hx247_0, hx247_1, hx247_2, hx247_3, hx247_4, hx247_5⟩ := at_T28 HR0.out x3_1 p247 q247
          have hw247_5 := hx247_5; have hw247_4 := hx247_4; have hw247_3 := hx247_3; have hw247_2 := hx247_2; have hw247_1 := hx247_1; have hw247_0 := hx247_0; cases e247; replace hx247_0 := cb HB hx247_0; replace hx247_1 := cb HB hx247_1; replace hx247_2 := cb HB hx247_2; replace hx247_3 := cb HB hx247_3; replace hx247_4 := cb HB hx247_4; replace hx247_5 := cb HB hx247_5; replace p247 := eq_true p247; replace q247 := eq_true q247
          have p248 : 0 ≤ ((ji7) : Int) := of_decide_eq_true as_
          have q248 : (ji7) < (l0.length : Int) := of_decide_eq_true as_
          obtain ⟨ad248, e248, hx248_0, hx248_1, hx248_2, hx248_3, hx248_4, hx248_5⟩ := at_T28 HR0.out (ji7) p248 q248
          have hw248_5 := hx248_5; have hw248_4 := hx248_4; have hw248_3 := hx248_3; have hw248_2 := hx248_2; have hw248_1 := hx248_1; have hw248_0 := hx248_0
          obtain rfl : ad247 = ad248 := (by injection e248)
          replace hx248_0 := cb HB hx248_0; replace hx248_1 := cb HB hx248_1; replace hx248_2 := cb HB hx248_2; replace hx248_3 := cb HB hx248_3; replace hx248_4 := cb HB hx248_4; replace hx248_5 := cb HB hx248_5; replace p248 := eq_true p248; replace q248 := eq_true q248
          have p249 : 0 ≤ (x3_1 : Int) := of_decide_eq_true as_
          have q249 : x3_1 < (l0.length : Int) := of_decide_eq_true as_
          obtain ⟨ad249, e249, hx249_0, hx249_1, hx249_2, hx249_3, hx249_4, hx249_5⟩ := at_T28 HR0.out x3_1 p249 q249
          have hw249_5 := hx249_5; have hw249_4 := hx249_4; have hw249_3 := hx249_3; have hw249_2 := hx249_2; have hw249_1 := hx249_1; have hw249_0 := hx249_0
          obtain rfl : ad247 = ad249 := (by injection e249)
          replace hx249_0 := cb HB hx249_0; replace hx249_1 := cb HB hx249_1; replace hx249_2 := cb HB hx249_2; replace hx249_3 := cb HB hx249_3; replace hx249_4 := cb HB hx249_4; replace hx249_5 := cb HB hx249_5; replace p249 := eq_true p249; replace q249 := eq_true q249
          refine start_ (n := 25) (S := fun w' => w'.cell? (ad247.add ((x3_1).toNat * 6)) = some (.string ((rd_T28 l0 x3_1).f0.f0)) ∧ w'.cell? ⟨(ad247.add ((x3_1).toNat * 6)).block, (ad247.add ((x3_1).toNat * 6)).off + 1, none⟩ = some (.string ((rd_T28 l0 x3_1).f0.f1)) ∧ w'.cell? ⟨(ad247.add ((x3_1).toNat * 6)).block, (ad247.add ((x3_1).toNat * 6)).off + 2, none⟩ = some (.string ((rd_T28 l0 x3_1).f0.f2)) ∧ w'.cell? ⟨(ad247.add ((x3_1).toNat * 6)).block, (ad247.add ((x3_1).toNat * 6)).off + 3, none⟩ = some (.string ((rd_T28 l0 x3_1).f0.f3)) ∧ w'.cell? ⟨(ad247.add ((x3_1).toNat * 6)).block, (ad247.add ((x3_1).toNat * 6)).off + 4, none⟩ = some (.int .i64 ((rd_T28 l0 x3_1).f0.f4)) ∧ w'.cell? ⟨(ad247.add ((x3_1).toNat * 6)).block, (ad247.add ((x3_1).toNat * 6)).off + 5, none⟩ = some (.int .i64 ((rd_T28 l0 x3_1).f1)) ∧ w'.cell? (ad247.add (((ji7)).toNat * 6)) = some (.string ((rd_T28 l0 (ji7)).f0.f0)) ∧ w'.cell? ⟨(ad247.add (((ji7)).toNat * 6)).block, (ad247.add (((ji7)).toNat * 6)).off + 1, none⟩ = some (.string ((rd_T28 l0 (ji7)).f0.f1)) ∧ w'.cell? ⟨(ad247.add (((ji7)).toNat * 6)).block, (ad247.add (((ji7)).toNat * 6)).off + 2, none⟩ = some (.string ((rd_T28 l0 (ji7)).f0.f2)) ∧ w'.cell? ⟨(ad247.add (((ji7)).toNat * 6)).block, (ad247.add (((ji7)).toNat * 6)).off + 3, none⟩ = some (.string ((rd_T28 l0 (ji7)).f0.f3)) ∧ w'.cell? ⟨(ad247.add (((ji7)).toNat * 6)).block, (ad247.add (((ji7)).toNat * 6)).off + 4, none⟩ = some (.int .i64 ((rd_T28 l0 (ji7)).f0.f4)) ∧ w'.cell? ⟨(ad247.add (((ji7)).toNat * 6)).block, (ad247.add (((ji7)).toNat * 6)).off + 5, none⟩ = some (.int .i64 ((rd_T28 l0 (ji7)).f1)) ∧ w'.cell? (ad247.add ((x3_1).toNat * 6)) = some (.string ((rd_T28 l0 x3_1).f0.f0)) ∧ w'.cell? ⟨(ad247.add ((x3_1).toNat * 6)).block, (ad247.add ((x3_1).toNat * 6)).off + 1, none⟩ = some (.string ((rd_T28 l0 x3_1).f0.f1)) ∧ w'.cell? ⟨(ad247.add ((x3_1).toNat * 6)).block, (ad247.add ((x3_1).toNat * 6)).off + 2, none⟩ = some (.string ((rd_T28 l0 x3_1).f0.f2)) ∧ w'.cell? ⟨(ad247.add ((x3_1).toNat * 6)).block, (ad247.add ((x3_1).toNat * 6)).off + 3, none⟩ = some (.string ((rd_T28 l0 x3_1).f0.f3)) ∧ w'.cell? ⟨(ad247.add ((x3_1).toNat * 6)).block, (ad247.add ((x3_1).toNat * 6)).off + 4, none⟩ = some (.int .i64 ((rd_T28 l0 x3_1).f0.f4)) ∧ w'.cell? ⟨(ad247.add ((x3_1).toNat * 6)).block, (ad247.add ((x3_1).toNat * 6)).off + 5, none⟩ = some (.int .i64 ((rd_T28 l0 x3_1).f1))) (ds := []) (fl 25 0) (by kernel_rfl) rfl rfl ⟨(cb HB hw247_0), (cb HB hw247_1), (cb HB hw247_2), (cb HB hw247_3), (cb HB hw247_4), (cb HB hw247_5), (cb HB hw248_0), (cb HB hw248_1), (cb HB hw248_2), (cb HB hw248_3), (cb HB hw248_4), (cb HB hw248_5), (cb HB hw249_0), (cb HB hw249_1), (cb HB hw249_2), (cb HB hw249_3), (cb HB hw249_4), (cb HB hw249_5)⟩ (fun hHeld => ?_); refine with_tabW comptrollerref09_Right.tab4 comptrollerref09_Right.bits4 (fun HT_ HW_ => ?_)
          generalize wr.drew = w12 at HB hx247_0 hx247_1 hx247_2 hx247_3 hx247_4 hx247_5 hx248_0 hx248_1 hx248_2 hx248_3 hx248_4 hx248_5 hx249_0 hx249_1 hx249_2 hx249_3 hx249_4 hx249_5 hHeld ⊢
          refine pu 0 (some 10) (fl 25 1) HT_ ?_
          refine pu 1 (some 11) (fl 25 3) HT_ ?_
          refine pu 2 (some 12) (fl 25 7) HT_ ?_
          refine pu 3 (some 13) (fl 25 15) HT_ ?_
          refine tu 4 (some 14) (fl 25 31) HT_ HW_ hHeld ?_
          refine pu 5 (some 15) (fl 25 63) HT_ ?_
          refine pu 6 (some 16) (fl 25 127) HT_ ?_
          refine pu 7 (some 17) (fl 25 255) HT_ ?_
          refine pu 8 (some 18) (fl 25 511) HT_ ?_
          refine pu 9 (some 19) (fl 25 1023) HT_ ?_
          refine pu 10 (some 20) (fl 25 2047) HT_ ?_
          refine pu 11 (some 21) (fl 25 4095) HT_ ?_
          refine pu 12 (some 22) (fl 25 8191) HT_ ?_
          refine pu 13 (some 23) (fl 25 16383) HT_ ?_
          refine pu 14 (some 24) (fl 25 32767) HT_ ?_
          refine pu 16 (some 26) (fl 25 98303) HT_ ?_
          refine pu 17 (some 27) (fl 25 229375) HT_ ?_
          refine pu 18 (some 28) (fl 25 491519) HT_ ?_
          refine pu 19 (some 29) (fl 25 1015807) HT_ ?_
          refine tu 15 (some 25) (fl 25 1048575) HT_ HW_ hHeld ?_
          refine tu 20 (some 30) (fl 25 2097151) HT_ HW_ hHeld ?_
          refine one_ (i := 21) (N := some 31) (fl 25 4194303) rfl rfl (one_of HT_.out (by kernel_rfl)) (by decide) (fun K hK => ?_)
          refine goes_ Try.func24 (by kernel_rfl) rfl #[.agg #[.string ((rd_T28 l0 (ji7)).f0.f0), .string ((rd_T28 l0 (ji7)).f0.f1), .string ((rd_T28 l0 (ji7)).f0.f2), .string ((rd_T28 l0 (ji7)).f0.f3), .int .i64 ((rd_T28 l0 (ji7)).f0.f4)], .agg #[.string ((rd_T28 l0 x3_1).f0.f0), .string ((rd_T28 l0 x3_1).f0.f1), .string ((rd_T28 l0 x3_1).f0.f2), .string ((rd_T28 l0 x3_1).f0.f3), .int .i64 ((rd_T28 l0 x3_1).f0.f4)]] (by rfl) rfl rfl (by (try simp only [List.map_toArray, List.map_cons, List.map_nil]); first | done | (simp only [hji7]; rfl) | rfl | (simp only [List.length_drop, List.length_take]; rfl)) ?_
          with_reducible refine (comptrollerref09_Cmp.calls k1 ((rd_T28 l0 (ji7)).f0.f0) ((rd_T28 l0 (ji7)).f0.f1) ((rd_T28 l0 (ji7)).f0.f2) ((rd_T28 l0 (ji7)).f0.f3) ((rd_T28 l0 (ji7)).f0.f4) ((rd_T28 l0 x3_1).f0.f0) ((rd_T28 l0 x3_1).f0.f1) ((rd_T28 l0 x3_1).f0.f2) ((rd_T28 l0 x3_1).f0.f3) ((rd_T28 l0 x3_1).f0.f4) t250 _ A10.out).mono ?_
          rintro e w13 ⟨rfl, hb⟩
          refine ⟨_, rfl, ?_⟩
          have n0_ := Aside0.mk (below_step bw hb)
          clear HB; have HB := n0_; clear n0_
          (try clear hb)
          (try clear hb2)
          (try clear hk)
          (try clear hi)
          refine hK.out _ _ ⟨(cb HB hw247_0), (cb HB hw247_1), (cb HB hw247_2), (cb HB hw247_3), (cb HB hw247_4), (cb HB hw247_5), (cb HB hw248_0), (cb HB hw248_1), (cb HB hw248_2), (cb HB hw248_3), (cb HB hw248_4), (cb HB hw248_5), (cb HB hw249_0), (cb HB hw249_1), (cb HB hw249_2), (cb HB hw249_3), (cb HB hw249_4), (cb HB hw249_5)⟩ (fun hHeld => ?_)
          clear hK K
          refine norm_ (a' := ?_) ?_ ?_
          rotate_left
          ·show Act.put _ (some 31) _ = _
           simp only [Act.put, List.setIfInBounds_toArray, List.set_cons_zero, List.set_cons_succ, i64_w, i32_w]
           rfl
          refine pu 22 (some 32) (fl 25 8388607) HT_ ?_
          refine pu 23 (some 33) (fl 25 16777215) HT_ ?_
          refine pu 24 (some 34) (fl 25 33554431) HT_ ?_
          refine done_ (done_of HT_.out (by kernel_rfl)) ?_
          try go_wp2
          go_ret
          exact ⟨by first | rfl | (simp [errW_none, errW_some] <;> rfl) | (simp only [← hji7]; first | rfl | (simp [errW_none, errW_some] <;> rfl)) | (simp [*, errW_none, errW_some] <;> rfl), bw⟩
         ·rw [if_neg c11] at H
          have c11b0 : decide (0 ≤ t250) = false := decide_eq_false c11
          clear c11
          have H' := Aside0.mk H
          clear H
          try go_wp2
          have n0_ := Aside0.mk (below_drew1 HB.out)
          clear HB; have HB := n0_; clear n0_
          have p247 : 0 ≤ (x3_1 : Int) := of_decide_eq_true as_
          have q247 : x3_1 < (l0.length : Int) := of_decide_eq_true as_
          obtain ⟨ad247, e247, hx247_0, hx247_1, hx247_2, hx247_3, hx247_4, hx247_5⟩ := at_T28 HR0.out x3_1 p247 q247
          have hw247_5 := hx247_5; have hw247_4 := hx247_4; have hw247_3 := hx247_3; have hw247_2 := hx247_2; have hw247_1 := hx247_1; have hw247_0 := hx247_0; cases e247; replace hx247_0 := cb HB hx247_0; replace hx247_1 := cb HB hx247_1; replace hx247_2 := cb HB hx247_2; replace hx247_3 := cb HB hx247_3; replace hx247_4 := cb HB hx247_4; replace hx247_5 := cb HB hx247_5; replace p247 := eq_true p247; replace q247 := eq_true q247
          have p248 : 0 ≤ ((ji7) : Int) := of_decide_eq_true as_
          have q248 : (ji7) < (l0.length : Int) := of_decide_eq_true as_
          obtain ⟨ad248, e248, hx248_0, hx248_1, hx248_2, hx248_3, hx248_4, hx248_5⟩ := at_T28 HR0.out (ji7) p248 q248
          have hw248_5 := hx248_5; have hw248_4 := hx248_4; have hw248_3 := hx248_3; have hw248_2 := hx248_2; have hw248_1 := hx248_1; have hw248_0 := hx248_0
          obtain rfl : ad247 = ad248 := (by injection e248)
          replace hx248_0 := cb HB hx248_0; replace hx248_1 := cb HB hx248_1; replace hx248_2 := cb HB hx248_2; replace hx248_3 := cb HB hx248_3; replace hx248_4 := cb HB hx248_4; replace hx248_5 := cb HB hx248_5; replace p248 := eq_true p248; replace q248 := eq_true q248
          have p249 : 0 ≤ (x3_1 : Int) := of_decide_eq_true as_
          have q249 : x3_1 < (l0.length : Int) := of_decide_eq_true as_
          obtain ⟨ad249, e249, hx249_0, hx249_1, hx249_2, hx249_3, hx249_4, hx249_5⟩ := at_T28 HR0.out x3_1 p249 q249
          have hw249_5 := hx249_5; have hw249_4 := hx249_4; have hw249_3 := hx249_3; have hw249_2 := hx249_2; have hw249_1 := hx249_1; have hw249_0 := hx249_0
          obtain rfl : ad247 = ad249 := (by injection e249)
          replace hx249_0 := cb HB hx249_0; replace hx249_1 := cb HB hx249_1; replace hx249_2 := cb HB hx249_2; replace hx249_3 := cb HB hx249_3; replace hx249_4 := cb HB hx249_4; replace hx249_5 := cb HB hx249_5; replace p249 := eq_true p249; replace q249 := eq_true q249
          refine start_ (n := 25) (S := fun w' => w'.cell? (ad247.add ((x3_1).toNat * 6)) = some (.string ((rd_T28 l0 x3_1).f0.f0)) ∧ w'.cell? ⟨(ad247.add ((x3_1).toNat * 6)).block, (ad247.add ((x3_1).toNat * 6)).off + 1, none⟩ = some (.string ((rd_T28 l0 x3_1).f0.f1)) ∧ w'.cell? ⟨(ad247.add ((x3_1).toNat * 6)).block, (ad247.add ((x3_1).toNat * 6)).off + 2, none⟩ = some (.string ((rd_T28 l0 x3_1).f0.f2)) ∧ w'.cell? ⟨(ad247.add ((x3_1).toNat * 6)).block, (ad247.add ((x3_1).toNat * 6)).off + 3, none⟩ = some (.string ((rd_T28 l0 x3_1).f0.f3)) ∧ w'.cell? ⟨(ad247.add ((x3_1).toNat * 6)).block, (ad247.add ((x3_1).toNat * 6)).off + 4, none⟩ = some (.int .i64 ((rd_T28 l0 x3_1).f0.f4)) ∧ w'.cell? ⟨(ad247.add ((x3_1).toNat * 6)).block, (ad247.add ((x3_1).toNat * 6)).off + 5, none⟩ = some (.int .i64 ((rd_T28 l0 x3_1).f1)) ∧ w'.cell? (ad247.add (((ji7)).toNat * 6)) = some (.string ((rd_T28 l0 (ji7)).f0.f0)) ∧ w'.cell? ⟨(ad247.add (((ji7)).toNat * 6)).block, (ad247.add (((ji7)).toNat * 6)).off + 1, none⟩ = some (.string ((rd_T28 l0 (ji7)).f0.f1)) ∧ w'.cell? ⟨(ad247.add (((ji7)).toNat * 6)).block, (ad247.add (((ji7)).toNat * 6)).off + 2, none⟩ = some (.string ((rd_T28 l0 (ji7)).f0.f2)) ∧ w'.cell? ⟨(ad247.add (((ji7)).toNat * 6)).block, (ad247.add (((ji7)).toNat * 6)).off + 3, none⟩ = some (.string ((rd_T28 l0 (ji7)).f0.f3)) ∧ w'.cell? ⟨(ad247.add (((ji7)).toNat * 6)).block, (ad247.add (((ji7)).toNat * 6)).off + 4, none⟩ = some (.int .i64 ((rd_T28 l0 (ji7)).f0.f4)) ∧ w'.cell? ⟨(ad247.add (((ji7)).toNat * 6)).block, (ad247.add (((ji7)).toNat * 6)).off + 5, none⟩ = some (.int .i64 ((rd_T28 l0 (ji7)).f1)) ∧ w'.cell? (ad247.add ((x3_1).toNat * 6)) = some (.string ((rd_T28 l0 x3_1).f0.f0)) ∧ w'.cell? ⟨(ad247.add ((x3_1).toNat * 6)).block, (ad247.add ((x3_1).toNat * 6)).off + 1, none⟩ = some (.string ((rd_T28 l0 x3_1).f0.f1)) ∧ w'.cell? ⟨(ad247.add ((x3_1).toNat * 6)).block, (ad247.add ((x3_1).toNat * 6)).off + 2, none⟩ = some (.string ((rd_T28 l0 x3_1).f0.f2)) ∧ w'.cell? ⟨(ad247.add ((x3_1).toNat * 6)).block, (ad247.add ((x3_1).toNat * 6)).off + 3, none⟩ = some (.string ((rd_T28 l0 x3_1).f0.f3)) ∧ w'.cell? ⟨(ad247.add ((x3_1).toNat * 6)).block, (ad247.add ((x3_1).toNat * 6)).off + 4, none⟩ = some (.int .i64 ((rd_T28 l0 x3_1).f0.f4)) ∧ w'.cell? ⟨(ad247.add ((x3_1).toNat * 6)).block, (ad247.add ((x3_1).toNat * 6)).off + 5, none⟩ = some (.int .i64 ((rd_T28 l0 x3_1).f1))) (ds := []) (fl 25 0) (by kernel_rfl) rfl rfl ⟨(cb HB hw247_0), (cb HB hw247_1), (cb HB hw247_2), (cb HB hw247_3), (cb HB hw247_4), (cb HB hw247_5), (cb HB hw248_0), (cb HB hw248_1), (cb HB hw248_2), (cb HB hw248_3), (cb HB hw248_4), (cb HB hw248_5), (cb HB hw249_0), (cb HB hw249_1), (cb HB hw249_2), (cb HB hw249_3), (cb HB hw249_4), (cb HB hw249_5)⟩ (fun hHeld => ?_); refine with_tabW comptrollerref09_Right.tab4 comptrollerref09_Right.bits4 (fun HT_ HW_ => ?_)
          generalize wr.drew = w14 at HB hx247_0 hx247_1 hx247_2 hx247_3 hx247_4 hx247_5 hx248_0 hx248_1 hx248_2 hx248_3 hx248_4 hx248_5 hx249_0 hx249_1 hx249_2 hx249_3 hx249_4 hx249_5 hHeld ⊢
          refine pu 0 (some 10) (fl 25 1) HT_ ?_
          refine pu 1 (some 11) (fl 25 3) HT_ ?_
          refine pu 2 (some 12) (fl 25 7) HT_ ?_
          refine pu 3 (some 13) (fl 25 15) HT_ ?_
          refine tu 4 (some 14) (fl 25 31) HT_ HW_ hHeld ?_
          refine pu 5 (some 15) (fl 25 63) HT_ ?_
          refine pu 6 (some 16) (fl 25 127) HT_ ?_
          refine pu 7 (some 17) (fl 25 255) HT_ ?_
          refine pu 8 (some 18) (fl 25 511) HT_ ?_
          refine pu 9 (some 19) (fl 25 1023) HT_ ?_
          refine pu 10 (some 20) (fl 25 2047) HT_ ?_
          refine pu 11 (some 21) (fl 25 4095) HT_ ?_
          refine pu 12 (some 22) (fl 25 8191) HT_ ?_
          refine pu 13 (some 23) (fl 25 16383) HT_ ?_
          refine pu 14 (some 24) (fl 25 32767) HT_ ?_
          refine pu 16 (some 26) (fl 25 98303) HT_ ?_
          refine pu 17 (some 27) (fl 25 229375) HT_ ?_
          refine pu 18 (some 28) (fl 25 491519) HT_ ?_
          refine pu 19 (some 29) (fl 25 1015807) HT_ ?_
          refine tu 15 (some 25) (fl 25 1048575) HT_ HW_ hHeld ?_
          refine tu 20 (some 30) (fl 25 2097151) HT_ HW_ hHeld ?_
          refine one_ (i := 21) (N := some 31) (fl 25 4194303) rfl rfl (one_of HT_.out (by kernel_rfl)) (by decide) (fun K hK => ?_)
          refine goes_ Try.func24 (by kernel_rfl) rfl #[.agg #[.string ((rd_T28 l0 (ji7)).f0.f0), .string ((rd_T28 l0 (ji7)).f0.f1), .string ((rd_T28 l0 (ji7)).f0.f2), .string ((rd_T28 l0 (ji7)).f0.f3), .int .i64 ((rd_T28 l0 (ji7)).f0.f4)], .agg #[.string ((rd_T28 l0 x3_1).f0.f0), .string ((rd_T28 l0 x3_1).f0.f1), .string ((rd_T28 l0 x3_1).f0.f2), .string ((rd_T28 l0 x3_1).f0.f3), .int .i64 ((rd_T28 l0 x3_1).f0.f4)]] (by rfl) rfl rfl (by (try simp only [List.map_toArray, List.map_cons, List.map_nil]); first | done | (simp only [hji7]; rfl) | rfl | (simp only [List.length_drop, List.length_take]; rfl)) ?_
          with_reducible refine (comptrollerref09_Cmp.calls k1 ((rd_T28 l0 (ji7)).f0.f0) ((rd_T28 l0 (ji7)).f0.f1) ((rd_T28 l0 (ji7)).f0.f2) ((rd_T28 l0 (ji7)).f0.f3) ((rd_T28 l0 (ji7)).f0.f4) ((rd_T28 l0 x3_1).f0.f0) ((rd_T28 l0 x3_1).f0.f1) ((rd_T28 l0 x3_1).f0.f2) ((rd_T28 l0 x3_1).f0.f3) ((rd_T28 l0 x3_1).f0.f4) t250 _ A10.out).mono ?_
          rintro e w15 ⟨rfl, hb⟩
          refine ⟨_, rfl, ?_⟩
          have n0_ := Aside0.mk (below_step bw hb)
          clear HB; have HB := n0_; clear n0_
          (try clear hb)
          (try clear hb2)
          (try clear hk)
          (try clear hi)
          refine hK.out _ _ ⟨(cb HB hw247_0), (cb HB hw247_1), (cb HB hw247_2), (cb HB hw247_3), (cb HB hw247_4), (cb HB hw247_5), (cb HB hw248_0), (cb HB hw248_1), (cb HB hw248_2), (cb HB hw248_3), (cb HB hw248_4), (cb HB hw248_5), (cb HB hw249_0), (cb HB hw249_1), (cb HB hw249_2), (cb HB hw249_3), (cb HB hw249_4), (cb HB hw249_5)⟩ (fun hHeld => ?_)
          clear hK K
          refine norm_ (a' := ?_) ?_ ?_
          rotate_left
          ·show Act.put _ (some 31) _ = _
           simp only [Act.put, List.setIfInBounds_toArray, List.set_cons_zero, List.set_cons_succ, i64_w, i32_w]
           rfl
          refine pu 22 (some 32) (fl 25 8388607) HT_ ?_
          refine pu 23 (some 33) (fl 25 16777215) HT_ ?_
          refine pu 24 (some 34) (fl 25 33554431) HT_ ?_
          refine done_ (done_of HT_.out (by kernel_rfl)) ?_
          try go_wp2
          go_roundg k1
          case measure => have := HK1.out; omega
          case rel => exact ⟨(wrap64 (x3_1 + 1)), rs_, H', ⟨by have := HK1.out; omega⟩, ⟨bw⟩⟩
        ·rw [if_neg c9] at H
         exact absurd H (by simp)
       ·rw [if_neg c8] at H
        exact absurd H (by simp)
      ·rw [if_neg c6] at H
       have c6b0 : decide (0 < x3_1) = false := decide_eq_false c6
       clear c6
       have H' := Aside0.mk H
       clear H
       try go_wp2
       have n0_ := Aside0.mk (below_drew1 HB.out)
       clear HB; have HB := n0_; clear n0_
       have p247 : 0 ≤ (x3_1 : Int) := of_decide_eq_true as_
       have q247 : x3_1 < (l0.length : Int) := of_decide_eq_true as_
       obtain ⟨ad247, e247, hx247_0, hx247_1, hx247_2, hx247_3, hx247_4, hx247_5⟩ := at_T28 HR0.out x3_1 p247 q247
       have hw247_5 := hx247_5; have hw247_4 := hx247_4; have hw247_3 := hx247_3; have hw247_2 := hx247_2; have hw247_1 := hx247_1; have hw247_0 := hx247_0; cases e247; replace hx247_0 := cb HB hx247_0; replace hx247_1 := cb HB hx247_1; replace hx247_2 := cb HB hx247_2; replace hx247_3 := cb HB hx247_3; replace hx247_4 := cb HB hx247_4; replace hx247_5 := cb HB hx247_5; replace p247 := eq_true p247; replace q247 := eq_true q247
       refine start_ (n := 25) (S := fun w' => w'.cell? (ad247.add ((x3_1).toNat * 6)) = some (.string ((rd_T28 l0 x3_1).f0.f0)) ∧ w'.cell? ⟨(ad247.add ((x3_1).toNat * 6)).block, (ad247.add ((x3_1).toNat * 6)).off + 1, none⟩ = some (.string ((rd_T28 l0 x3_1).f0.f1)) ∧ w'.cell? ⟨(ad247.add ((x3_1).toNat * 6)).block, (ad247.add ((x3_1).toNat * 6)).off + 2, none⟩ = some (.string ((rd_T28 l0 x3_1).f0.f2)) ∧ w'.cell? ⟨(ad247.add ((x3_1).toNat * 6)).block, (ad247.add ((x3_1).toNat * 6)).off + 3, none⟩ = some (.string ((rd_T28 l0 x3_1).f0.f3)) ∧ w'.cell? ⟨(ad247.add ((x3_1).toNat * 6)).block, (ad247.add ((x3_1).toNat * 6)).off + 4, none⟩ = some (.int .i64 ((rd_T28 l0 x3_1).f0.f4)) ∧ w'.cell? ⟨(ad247.add ((x3_1).toNat * 6)).block, (ad247.add ((x3_1).toNat * 6)).off + 5, none⟩ = some (.int .i64 ((rd_T28 l0 x3_1).f1))) (ds := []) (fl 25 0) (by kernel_rfl) rfl rfl ⟨(cb HB hw247_0), (cb HB hw247_1), (cb HB hw247_2), (cb HB hw247_3), (cb HB hw247_4), (cb HB hw247_5)⟩ (fun hHeld => ?_); refine with_tabW comptrollerref09_Right.tab4 comptrollerref09_Right.bits4 (fun HT_ HW_ => ?_)
       generalize wr.drew = w16 at HB hx247_0 hx247_1 hx247_2 hx247_3 hx247_4 hx247_5 hHeld ⊢
       refine pu 0 (some 10) (fl 25 1) HT_ ?_
       refine pu 1 (some 11) (fl 25 3) HT_ ?_
       refine pu 2 (some 12) (fl 25 7) HT_ ?_
       refine pu 3 (some 13) (fl 25 15) HT_ ?_
       refine tu 4 (some 14) (fl 25 31) HT_ HW_ hHeld ?_
       refine pu 5 (some 15) (fl 25 63) HT_ ?_
       refine pu 6 (some 16) (fl 25 127) HT_ ?_
       refine pu 7 (some 17) (fl 25 255) HT_ ?_
       refine pu 8 (some 18) (fl 25 511) HT_ ?_
       refine pu 9 (some 19) (fl 25 1023) HT_ ?_
       refine pure_ (i := 10) (N := some 20) (v := undef) (a' := ?_) (fl 25 2047) rfl rfl (any_of HT_.out (by kernel_rfl)) (fun _ _ _ h => h) (Or.inr ⟨by rfl, rfl⟩) ?_ ?_
       rotate_left
       ·simp only [Act.put, List.setIfInBounds_toArray, List.set_cons_zero, List.set_cons_succ, i64_w, i32_w]
        rfl
       refine pure_ (i := 11) (N := some 21) (v := undef) (a' := ?_) (fl 25 4095) rfl rfl (any_of HT_.out (by kernel_rfl)) (fun _ _ _ h => h) (Or.inr ⟨by rfl, rfl⟩) ?_ ?_
       rotate_left
       ·simp only [Act.put, List.setIfInBounds_toArray, List.set_cons_zero, List.set_cons_succ, i64_w, i32_w]
        rfl
       refine pure_ (i := 12) (N := some 22) (v := undef) (a' := ?_) (fl 25 8191) rfl rfl (any_of HT_.out (by kernel_rfl)) (fun _ _ _ h => h) (Or.inr ⟨by rfl, rfl⟩) ?_ ?_
       rotate_left
       ·simp only [Act.put, List.setIfInBounds_toArray, List.set_cons_zero, List.set_cons_succ, i64_w, i32_w]
        rfl
       refine pure_ (i := 13) (N := some 23) (v := undef) (a' := ?_) (fl 25 16383) rfl rfl (any_of HT_.out (by kernel_rfl)) (fun _ _ _ h => h) (Or.inr ⟨by rfl, rfl⟩) ?_ ?_
       rotate_left
       ·simp only [Act.put, List.setIfInBounds_toArray, List.set_cons_zero, List.set_cons_succ, i64_w, i32_w]
        rfl
       refine pure_ (i := 14) (N := some 24) (v := undef) (a' := ?_) (fl 25 32767) rfl rfl (any_of HT_.out (by kernel_rfl)) (fun _ _ _ h => h) (Or.inr ⟨by rfl, rfl⟩) ?_ ?_
       rotate_left
       ·simp only [Act.put, List.setIfInBounds_toArray, List.set_cons_zero, List.set_cons_succ, i64_w, i32_w]
        rfl
       refine pure_ (i := 15) (N := some 25) (v := undef) (a' := ?_) (fl 25 65535) rfl rfl (any_of HT_.out (by kernel_rfl)) (fun _ _ _ h => h) (Or.inr ⟨by rfl, rfl⟩) ?_ ?_
       rotate_left
       ·simp only [Act.put, List.setIfInBounds_toArray, List.set_cons_zero, List.set_cons_succ, i64_w, i32_w]
        rfl
       refine pure_ (i := 16) (N := some 26) (v := undef) (a' := ?_) (fl 25 131071) rfl rfl (any_of HT_.out (by kernel_rfl)) (fun _ _ _ h => h) (Or.inr ⟨by rfl, rfl⟩) ?_ ?_
       rotate_left
       ·simp only [Act.put, List.setIfInBounds_toArray, List.set_cons_zero, List.set_cons_succ, i64_w, i32_w]
        rfl
       refine pure_ (i := 17) (N := some 27) (v := undef) (a' := ?_) (fl 25 262143) rfl rfl (any_of HT_.out (by kernel_rfl)) (fun _ _ _ h => h) (Or.inr ⟨by rfl, rfl⟩) ?_ ?_
       rotate_left
       ·simp only [Act.put, List.setIfInBounds_toArray, List.set_cons_zero, List.set_cons_succ, i64_w, i32_w]
        rfl
       refine pure_ (i := 18) (N := some 28) (v := undef) (a' := ?_) (fl 25 524287) rfl rfl (any_of HT_.out (by kernel_rfl)) (fun _ _ _ h => h) (Or.inr ⟨by rfl, rfl⟩) ?_ ?_
       rotate_left
       ·simp only [Act.put, List.setIfInBounds_toArray, List.set_cons_zero, List.set_cons_succ, i64_w, i32_w]
        rfl
       refine pure_ (i := 19) (N := some 29) (v := undef) (a' := ?_) (fl 25 1048575) rfl rfl (any_of HT_.out (by kernel_rfl)) (fun _ _ _ h => h) (Or.inr ⟨by rfl, rfl⟩) ?_ ?_
       rotate_left
       ·simp only [Act.put, List.setIfInBounds_toArray, List.set_cons_zero, List.set_cons_succ, i64_w, i32_w]
        rfl
       refine pure_ (i := 20) (N := some 30) (v := undef) (a' := ?_) (fl 25 2097151) rfl rfl (any_of HT_.out (by kernel_rfl)) (fun _ _ _ h => h) (Or.inr ⟨by rfl, rfl⟩) ?_ ?_
       rotate_left
       ·simp only [Act.put, List.setIfInBounds_toArray, List.set_cons_zero, List.set_cons_succ, i64_w, i32_w]
        rfl
       refine pure_ (i := 21) (N := some 31) (v := undef) (a' := ?_) (fl 25 4194303) rfl rfl (any_of HT_.out (by kernel_rfl)) (fun _ _ _ h => h) (Or.inr ⟨by rfl, rfl⟩) ?_ ?_
       rotate_left
       ·simp only [Act.put, List.setIfInBounds_toArray, List.set_cons_zero, List.set_cons_succ, i64_w, i32_w]
        rfl
       refine pure_ (i := 22) (N := some 32) (v := undef) (a' := ?_) (fl 25 8388607) rfl rfl (any_of HT_.out (by kernel_rfl)) (fun _ _ _ h => h) (Or.inr ⟨by rfl, rfl⟩) ?_ ?_
       rotate_left
       ·simp only [Act.put, List.setIfInBounds_toArray, List.set_cons_zero, List.set_cons_succ, i64_w, i32_w]
        rfl
       refine pu 23 (some 33) (fl 25 16777215) HT_ ?_
       refine pu 24 (some 34) (fl 25 33554431) HT_ ?_
       refine done_ (done_of HT_.out (by kernel_rfl)) ?_
       try go_wp2
       go_roundg k1
       case measure => have := HK1.out; omega
       case rel => exact ⟨(wrap64 (x3_1 + 1)), rs_, H', ⟨by have := HK1.out; omega⟩, ⟨bw⟩⟩
    ·rw [if_neg c3] at H
     exact absurd H (by simp)
   ·rw [if_neg c2] at H
    have c2b0 : decide (x3_1 < (l0.length : Int)) = false := decide_eq_false c2
    clear c2
    obtain rfl := Option.some.inj H
    go_wp2; go_ret
    exact ⟨re_, bw⟩

end Go.Proofs.Ytdckeflggcefbaa.Y
namespace Go.Proofs.Ytdckeflggcefbaa.Y
open Go.RowKit Go.Proofs.YtdckeflggcefbaaW.PrintWords Go.Proofs.YtdckeflggcefbaaW.PrintLast Go.Proofs.YtdckeflggcefbaaW.PrintMore
set_option linter.unusedVariables false
set_option linter.unusedSimpArgs false
/-- Another text, or none asked. -/
def anyB (a s : ByteArray) : Bool := if a.toList = ([] : List UInt8) then true else a.toList == s.toList
theorem any_f (a s : ByteArray) : fact_any.f a s = some (anyB a s) := by unfold fact_any.f anyB; split <;> rfl
def asked (a b c : ByteArray) (k : S24) : Bool := anyB a k.f0 && (anyB b k.f1 && anyB c k.f2)
def askL (a b c : ByteArray) (l : List S28) : List Int := (l.filter fun x => asked a b c x.f0).map (·.f1)
theorem askL_cons (a b c : ByteArray) (x : S28) (l : List S28) : askL a b c (x :: l) = if asked a b c x.f0 = true then x.f1 :: askL a b c l else askL a b c l := by
  unfold askL
  by_cases h : asked a b c x.f0 = true
  · rw [if_pos h, List.filter_cons_of_pos (p := fun x : S28 => asked a b c x.f0) (a := x) h]; rfl
  · rw [if_neg h, List.filter_cons_of_neg (p := fun x : S28 => asked a b c x.f0) (a := x) h]
theorem sum_ev (a b c : ByteArray) : ∀ (R P : List S28) (acc : Int), (P ++ R).length ≤ 1000000 → Fit acc → (∀ y ∈ R, Fit y.f1) →
    Ev (fun k => fact_Sum.l0 k a b c acc ((P ++ R).map toT) (P ++ R).length P.length) (res (sumL acc (askL a b c R)))
  | [], P, acc, h, ha, hf => by
    refine Ev.some fun k => ?_
    simp only [fact_Sum.l0]
    rw [if_neg (by simp)]
    rfl
  | x :: R, P, acc, h, ha, hf => by
    have hl : (P ++ x :: R).length = P.length + R.length + 1 := by simp; omega
    have hx := hf x (by simp)
    have ih := fun g m => sum_ev a b c R (P ++ [x]) g (by simp at h ⊢; omega) m fun y hy => hf y (by simp [hy])
    simp only [List.append_assoc, List.singleton_append] at ih
    have rx : rd_T55 ((P ++ x :: R).map toT) (P.length : Int) = toT x := by
      rw [List.map_append, List.map_cons]; exact rd_app _ _ _ _ (by simp)
    have hw : wrap64 ((P.length : Int) + 1) = (((P ++ [x]).length : Nat) : Int) := by rw [hl] at h; rw [w64 (by omega) (by omega)]; simp
    have skip : ∀ r, Ev (fun k => fact_Sum.l0 k a b c acc ((P ++ x :: R).map toT) (P ++ x :: R).length ((P ++ [x]).length : Nat)) r → Ev (fun k => fact_Sum.j1 k a b c acc ((P ++ x :: R).map toT) (P ++ x :: R).length P.length true (toT x).f0.f0 (toT x).f0.f1 (toT x).f0.f2 (toT x).f0.f3 (toT x).f0.f4 (toT x).f1) r := fun r H => Ev.step H fun k => by
      show fact_Sum.j1 (k + 1) _ _ _ _ _ _ _ _ _ _ _ _ _ _ = _
      simp only [fact_Sum.j1]
      rw [if_pos trivial, hw]
    have st : ∀ k, fact_Sum.l0 (k + 1) a b c acc ((P ++ x :: R).map toT) (P ++ x :: R).length P.length = fact_Sum.j1 k a b c acc ((P ++ x :: R).map toT) (P ++ x :: R).length P.length (!asked a b c x.f0) (toT x).f0.f0 (toT x).f0.f1 (toT x).f0.f2 (toT x).f0.f3 (toT x).f0.f4 (toT x).f1 := fun k => by
      simp only [fact_Sum.l0]
      rw [if_pos (by omega), if_pos (by omega), if_pos (by simp; omega), rx]
      simp only [any_f, Option.bind_some, asked]
      show (if anyB a x.f0.f0 = true then (if anyB b x.f0.f1 = true then _ else _) else _) = _
      by_cases h1 : anyB a x.f0.f0 = true
      · rw [if_pos h1]
        by_cases h2 : anyB b x.f0.f1 = true
        · rw [if_pos h2, h1, h2]; rfl
        · rw [if_neg h2, Bool.eq_false_iff.2 h2, h1]; rfl
      · rw [if_neg h1, Bool.eq_false_iff.2 h1]; rfl
    rw [askL_cons]
    by_cases ca : asked a b c x.f0 = true
    · rw [if_pos ca]
      by_cases cf : Fit (acc + x.f1)
      · simp only [sumL, if_pos cf]
        refine Ev.step (g := fun k => fact_Sum.j1 k a b c acc ((P ++ x :: R).map toT) (P ++ x :: R).length P.length false (toT x).f0.f0 (toT x).f0.f1 (toT x).f0.f2 (toT x).f0.f3 (toT x).f0.f4 (toT x).f1) (Ev.step (ih _ cf) fun k => ?_) fun k => by rw [st, ca]; rfl
        show fact_Sum.j1 (k + 1) _ _ _ _ _ _ _ _ _ _ _ _ _ _ = _
        simp only [fact_Sum.j1]
        rw [if_neg (by simp), show (toT x).f1 = x.f1 from rfl, cent_res acc x.f1 ha hx, if_pos cf, Option.bind_some, if_pos (show (acc + x.f1, (0 : Int)).2 = 0 from rfl), hw]
      · simp only [sumL, if_neg cf]
        refine Ev.step (g := fun k => fact_Sum.j1 k a b c acc ((P ++ x :: R).map toT) (P ++ x :: R).length P.length false (toT x).f0.f0 (toT x).f0.f1 (toT x).f0.f2 (toT x).f0.f3 (toT x).f0.f4 (toT x).f1) (Ev.some fun k => ?_) fun k => by rw [st, ca]; rfl
        simp only [fact_Sum.j1]
        rw [if_neg (by simp), show (toT x).f1 = x.f1 from rfl, cent_res acc x.f1 ha hx, if_neg cf, Option.bind_some, if_neg (by decide)]
        rfl
    · rw [if_neg ca]
      exact Ev.step (skip _ (ih _ ha)) fun k => by rw [st, Bool.eq_false_iff.2 ca]; rfl
theorem Sum_ev (a b c : ByteArray) (l : List S28) (h : l.length ≤ 1000000) (hf : ∀ y ∈ l, Fit y.f1) : Ev (fun k => fact_Sum.f k (l.map toT) a b c) (res (sumL 0 (askL a b c l))) := by
  have := sum_ev a b c l [] 0 (by simpa using h) (by unfold Fit; omega) hf
  simpa [fact_Sum.f] using this
theorem sum_step {α : Type} (A B C p q r : Prop) [Decidable A] [Decidable B] [Decidable C] [Decidable p] [Decidable q] [Decidable r] (t1 t2 t3 : Bool) (hp : p ↔ t1 = true) (hq : q ↔ t2 = true) (hr : r ↔ t3 = true) (X Y : α) :
    (if A then (if B then (if C then X else if r then X else Y) else if q then (if C then X else if r then X else Y) else Y) else if p then (if B then (if C then X else if r then X else Y) else if q then (if C then X else if r then X else Y) else Y) else Y) = if ((if A then true else t1) && ((if B then true else t2) && (if C then true else t3))) = true then X else Y := by
  by_cases hA : A <;> by_cases hB : B <;> by_cases hC : C <;> by_cases h1 : p <;> by_cases h2 : q <;> by_cases h3 : r <;> simp only [hA, hB, hC, h1, h2, h3, if_true, if_false] <;> simp_all
theorem refsum_ev (a b c : ByteArray) : ∀ (R P : List S28) (am : List Int), (P ++ R).length ≤ 1000000 → am.length + R.length ≤ 1000000 →
    (∀ y ∈ am, Fit y) → (∀ y ∈ R, Fit y.f1) → Ev (fun k => comptrollerref09_Sum.l0 k (P ++ R) a b c am P.length) (res (sumL 0 (am ++ askL a b c R)))
  | [], P, am, h, h2, hm, hf => by
    refine Ev.step (g := fun k => (comptrollerref01_Sum.f k am).bind fun bt => some (bt.1, bt.2)) ?_ fun k => ?_
    · have := refSum_ev am (by simp at h2; omega) hm
      refine Ev.bind (g := fun k bt => some (bt.1, bt.2)) (a := res (sumL 0 am)) this (Ev.const fun k => ?_)
      simp [askL]
    · show comptrollerref09_Sum.l0 (k + 1) _ _ _ _ _ _ = _
      simp only [comptrollerref09_Sum.l0]
      rw [if_neg (by simp)]
  | x :: R, P, am, h, h2, hm, hf => by
    have hl : (P ++ x :: R).length = P.length + R.length + 1 := by simp; omega
    simp only [List.length_cons] at h2
    have hx := hf x (by simp)
    have ih := fun g m1 m2 => refsum_ev a b c R (P ++ [x]) g (by simp at h ⊢; omega) m1 m2 fun y hy => hf y (by simp [hy])
    simp only [List.append_assoc, List.singleton_append] at ih
    have hw : wrap64 ((P.length : Int) + 1) = (((P ++ [x]).length : Nat) : Int) := by rw [hl] at h; rw [w64 (by omega) (by omega)]; simp
    have st : ∀ k, comptrollerref09_Sum.l0 (k + 1) (P ++ x :: R) a b c am P.length = if asked a b c x.f0 = true then comptrollerref09_Sum.l0 k (P ++ x :: R) a b c (am ++ [x.f1]) ((P ++ [x]).length : Nat) else comptrollerref09_Sum.l0 k (P ++ x :: R) a b c am ((P ++ [x]).length : Nat) := fun k => by
      simp only [comptrollerref09_Sum.l0]
      have b1 : am.length < 17592186044416 := by omega
      rw [if_pos (by omega), if_pos (by omega), rd28_app P R x _ rfl, hw]
      simp only [if_pos b1]
      exact sum_step _ _ _ _ _ _ _ _ _ (by rw [beq_iff_eq]; exact eq_comm) (by rw [beq_iff_eq]; exact eq_comm) (by rw [beq_iff_eq]; exact eq_comm) _ _
    rw [askL_cons]
    by_cases ca : asked a b c x.f0 = true
    · rw [if_pos ca]
      refine Ev.step (g := fun k => comptrollerref09_Sum.l0 k (P ++ x :: R) a b c (am ++ [x.f1]) ((P ++ [x]).length : Nat)) ?_ fun k => by rw [st, if_pos ca]
      have := ih (am ++ [x.f1]) (by simp; omega) (fun y hy => by rcases List.mem_append.1 hy with hy | hy; exact hm y hy; obtain rfl := List.mem_singleton.1 hy; exact hx)
      simpa using this
    · rw [if_neg ca]
      exact Ev.step (ih am (by omega) hm) fun k => by rw [st, if_neg ca]
theorem RefSum_ev (a b c : ByteArray) (l : List S28) (h : l.length ≤ 1000000) (hf : ∀ y ∈ l, Fit y.f1) : Ev (fun k => comptrollerref09_Sum.f k l a b c) (res (sumL 0 (askL a b c l))) := by
  have := refsum_ev a b c l [] [] (by simpa using h) (by simpa using h) (by simp) hf
  simpa [comptrollerref09_Sum.f] using this
end Go.Proofs.Ytdckeflggcefbaa.Y
