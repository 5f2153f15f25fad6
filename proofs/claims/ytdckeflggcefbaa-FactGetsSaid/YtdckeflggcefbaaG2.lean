/- Plain Lean functions with the answers of the program's functions, and proofs that the machine's calls come to them; lines written by a program for this claim. No conditions. -/
import Derived.Test.YtdckeflggcefbaaG1
namespace Go.Proofs.Ytdckeflggcefbaa.Y
open Go.RowKit Go.Proofs.YtdckeflggcefbaaW.PrintWords Go.Proofs.YtdckeflggcefbaaW.PrintLast Go.Proofs.YtdckeflggcefbaaW.PrintMore
attribute [local go_sem] max2_int min2_int max_two min_two max_three min_three max_four min_four
set_option linter.unusedVariables false
set_option linter.unusedSimpArgs false

/-! ### fact_Fact_47: function 47 -/
mutual
def fact_Fact_47.l0 : Nat → List (S55) → Int → Int → Int → Option ((List (S55)))
 | 0, _, _, _, _ => none
 | k + 1, x0, x1, x2, x8 => if x8 < x2 then (fact_Fact_47.l1 k x0 x1 x2 x8 x8) else (some x0)
def fact_Fact_47.l1 : Nat → List (S55) → Int → Int → Int → Int → Option ((List (S55)))
 | 0, _, _, _, _, _ => none
 | k + 1, x0, x1, x2, x8, x9 => if x9 > x1 then (if 0 ≤ x9 then (if x9 < (x0.length : Int) then (if 0 ≤ (wrap64 (x9 - 1)) then (if (wrap64 (x9 - 1)) < (x0.length : Int) then ((fact_Of_1.f k ((rd_T55 x0 x9).f0.f0) ((rd_T55 x0 x9).f0.f1) ((rd_T55 x0 x9).f0.f2) ((rd_T55 x0 x9).f0.f3) ((rd_T55 x0 x9).f0.f4) ((rd_T55 x0 x9).f1) ((rd_T55 x0 (wrap64 (x9 - 1))).f0.f0) ((rd_T55 x0 (wrap64 (x9 - 1))).f0.f1) ((rd_T55 x0 (wrap64 (x9 - 1))).f0.f2) ((rd_T55 x0 (wrap64 (x9 - 1))).f0.f3) ((rd_T55 x0 (wrap64 (x9 - 1))).f0.f4) ((rd_T55 x0 (wrap64 (x9 - 1))).f1)).bind fun t123 => (if t123 < 0 then (fact_Fact_47.l1 k ((x0.set (x9 : Int).toNat (⟨(⟨(rd_T55 x0 (wrap64 (x9 - 1))).f0.f0, (rd_T55 x0 (wrap64 (x9 - 1))).f0.f1, (rd_T55 x0 (wrap64 (x9 - 1))).f0.f2, (rd_T55 x0 (wrap64 (x9 - 1))).f0.f3, (rd_T55 x0 (wrap64 (x9 - 1))).f0.f4⟩ : S44), (rd_T55 x0 (wrap64 (x9 - 1))).f1⟩ : S55)).set ((wrap64 (x9 - 1)) : Int).toNat (⟨(⟨(rd_T55 x0 x9).f0.f0, (rd_T55 x0 x9).f0.f1, (rd_T55 x0 x9).f0.f2, (rd_T55 x0 x9).f0.f3, (rd_T55 x0 x9).f0.f4⟩ : S44), (rd_T55 x0 x9).f1⟩ : S55)) x1 x2 x8 (wrap64 (x9 - 1))) else (fact_Fact_47.l0 k x0 x1 x2 (wrap64 (x8 + 1))))) else (none)) else (none)) else (none)) else (none)) else (fact_Fact_47.l0 k x0 x1 x2 (wrap64 (x8 + 1)))
end
def fact_Fact_47.f (k : Nat) (l0 : List (S55)) (a1 : Int) (a2 : Int)  : Option ((List (S55))) := fact_Fact_47.l0 k l0 a1 a2 (wrap64 (a1 + 1))
theorem fact_Fact_47.mono_l : ∀ k, (∀ y0 y1 y2 y3, LeO (fact_Fact_47.l0 k y0 y1 y2 y3) (fact_Fact_47.l0 (k + 1) y0 y1 y2 y3)) ∧ (∀ y0 y1 y2 y3 y4, LeO (fact_Fact_47.l1 k y0 y1 y2 y3 y4) (fact_Fact_47.l1 (k + 1) y0 y1 y2 y3 y4))
 | 0 => ⟨fun _ _ _ _ r h => by simp [fact_Fact_47.l0] at h, fun _ _ _ _ _ r h => by simp [fact_Fact_47.l1] at h⟩
 | k + 1 => by
  obtain ⟨ih0, ih1⟩ := fact_Fact_47.mono_l k
  refine ⟨?_, ?_⟩
  ·intro y0 y1 y2 y3
   unfold fact_Fact_47.l0
   with_reducible repeat' first | apply ih0 | apply ih1 | apply fact_Of_1.mono | refine LeO.refl _ | refine LeO.none _ | refine LeO.ite ?_ ?_ | refine LeO.bind ?_ (fun _ => ?_)
  ·intro y0 y1 y2 y3 y4
   unfold fact_Fact_47.l1
   with_reducible repeat' first | apply ih0 | apply ih1 | apply fact_Of_1.mono | refine LeO.refl _ | refine LeO.none _ | refine LeO.ite ?_ ?_ | refine LeO.bind ?_ (fun _ => ?_)
theorem fact_Fact_47.mono : ∀ a0 a1 a2 k, LeO (fact_Fact_47.f k a0 a1 a2) (fact_Fact_47.f (k + 1) a0 a1 a2) := by
 intro a0 a1 a2 k
 obtain ⟨ih0, ih1⟩ := fact_Fact_47.mono_l k
 unfold fact_Fact_47.f
 with_reducible repeat' first | apply ih0 | apply ih1 | apply fact_Of_1.mono | refine LeO.refl _ | refine LeO.none _ | refine LeO.ite ?_ ?_ | refine LeO.bind ?_ (fun _ => ?_)
def fact_Fact_47.T4 : Bool × List (List Nat × List Nat) := (true, [([], []), ([], []), ([0, 1], [0, 1]), ([2], [2]), ([3], [3]), ([3], [3]), ([3], [3]), ([5, 6, 3], [3, 5, 6]), ([7, 3], [3, 7]), ([3], [3]), ([3], [3]), ([10, 3], [3, 10]), ([9, 11, 3], [3, 9, 11]), ([12, 3], [3, 12]), ([4, 8, 13, 3, 3], [3, 4, 8, 13]), ([14, 3], [3, 14]), ([3, 15], [3, 15])])
def fact_Fact_47.B4 : List Nat := [0, 0, 3, 7, 15, 15, 15, 111, 239, 15, 15, 1039, 3599, 7695, 16383, 32767, 65535]
theorem fact_Fact_47.tab4 : rtab .any (opsOf Try.f47 4) = fact_Fact_47.T4 := by kernel_rfl
theorem fact_Fact_47.bits4 : waitsOk fact_Fact_47.T4.2 fact_Fact_47.B4 = true := by kernel_rfl
def fact_Fact_47.T6 : Bool × List (List Nat × List Nat) := (true, [([], []), ([], []), ([], []), ([], []), ([3], [3]), ([], []), ([], []), ([6], [6]), ([5, 7], [5, 7]), ([8], [8]), ([], []), ([], []), ([10, 11], [10, 11]), ([12], [12]), ([0, 1, 0, 1, 5, 6, 7, 8, 9, 13], [0, 1]), ([14, 9, 0, 1, 5, 6, 7, 8, 9, 13], [9, 14]), ([2, 4, 0, 1, 2, 3, 4, 5, 6, 7, 8, 9, 10, 11, 12, 13, 14, 15], [2, 4]), ([16, 13, 15, 0, 1, 2, 3, 4, 5, 6, 7, 8, 9, 10, 11, 12, 13, 14, 15], [13, 16])])
def fact_Fact_47.B6 : List Nat := [0, 0, 0, 0, 8, 0, 0, 64, 224, 480, 0, 0, 3072, 7168, 16355, 32739, 65535, 131071]
theorem fact_Fact_47.tab6 : rtab .any (opsOf Try.f47 6) = fact_Fact_47.T6 := by kernel_rfl
theorem fact_Fact_47.bits6 : waitsOk fact_Fact_47.T6.2 fact_Fact_47.B6 = true := by kernel_rfl
set_option maxHeartbeats 8000000 in
set_option maxRecDepth 100000 in
theorem fact_Fact_47.calls (k : Nat) (P0_ : Nat → Prop) (u9000_ : Value) (l0 : List (S55)) (a1 : Int) (a2 : Int)  (r : List (S55)) (w0 w : World) (hB : Below w0.heap.size w0 w) (ho0 : Kd.R k55 55 w w0.heap.size P0_ u9000_ l0) (h : fact_Fact_47.f k l0 a1 a2 = some r) :
  Calls Try.prog 47 #[u9000_, .int .i64 a1, .int .i64 a2, .func (.func 34) #[] #[]] w fun e w' => e = .returned (.tuple #[]) ∧ Kd.R k55 55 w' w0.heap.size (fun k_ => (P0_ k_ ∨ w.heap.size ≤ k_)) u9000_ r ∧ Below w0.heap.size w0 w' ∧ Kept w w' (fun k_ => P0_ k_) := by
 have hu55 := Try.underlying55
 have HO0 := Aside0.mk (show Kd.R k55 55 w w0.heap.size (fun k_ => (P0_ k_ ∨ w.heap.size ≤ k_)) u9000_ l0 from Kd.R_mono ho0 (fun k_ hk => (.inl hk)))
 have HK := Aside0.mk (Kept.refl w (fun k_ => P0_ k_))
 have HW0 := Aside0.mk hB.size
 have HB := Aside0.mk hB; clear hB
 have H : (fact_Fact_47.l0 k l0 a1 a2 (wrap64 (a1 + 1))) = some r := h
 clear h
 have H' := Aside0.mk H
 clear H
 go_enter Try.func47, Try.ntmps47
 go_wp2
 go_loopg [8] k (fun kq v8 w' => ∃ (x0_1 : List (S55)) (x8_1 : Int), v8 = .int .i64 x8_1 ∧ Aside0 (fact_Fact_47.l0 kq x0_1 a1 a2 x8_1 = some r) ∧ Aside0 (kq ≤ k) ∧ Aside0 (Kd.R k55 55 w' w0.heap.size (fun k_ => (P0_ k_ ∨ w.heap.size ≤ k_)) u9000_ x0_1) ∧ Aside0 (Kept w w' (fun k_ => P0_ k_)) ∧ Aside0 (Below w0.heap.size w0 w'))
 case atStart => exact ⟨(l0), (wrap64 (a1 + 1)), rs_, H', ⟨Nat.le_refl _⟩, ⟨kr HO0⟩, ⟨kp_⟩, ⟨bw⟩⟩
 case round =>
  clear H'
  (try clear p2); (try clear c4)
  obtain ⟨x0_1, x8_1, rfl, HA, HK1, HO_0, HK, HB⟩ := hrel
  cases gk with
  | zero => exact absurd HA.out (by simp [fact_Fact_47.l0])
  | succ k1 =>
   have H := HA.out; clear HA
   simp only [fact_Fact_47.l0] at H
   by_cases c5 : x8_1 < a2
   ·rw [if_pos c5] at H
    have c5b0 : decide (x8_1 < a2) = true := decide_eq_true c5
    clear c5
    have H' := Aside0.mk H
    clear H; go_wp2
    go_loopg [9] k1 (fun kq v9 w' => ∃ (x0_2 : List (S55)) (x9_2 : Int), v9 = .int .i64 x9_2 ∧ Aside0 (fact_Fact_47.l1 kq x0_2 a1 a2 x8_1 x9_2 = some r) ∧ Aside0 (kq ≤ k1) ∧ Aside0 (Kd.R k55 55 w' w0.heap.size (fun k_ => (P0_ k_ ∨ w.heap.size ≤ k_)) u9000_ x0_2) ∧ Aside0 (Kept w w' (fun k_ => P0_ k_)) ∧ Aside0 (Below w0.heap.size w0 w'))
    case atStart => exact ⟨(x0_1), (x8_1), rs_, H', ⟨Nat.le_refl _⟩, ⟨kr HO_0⟩, ⟨kp_⟩, ⟨bw⟩⟩
    case round =>
     clear H'
     (try clear p2); (try clear c4); (try clear c5); (try clear c5b0); (try clear p2)
     obtain ⟨x0_2, x9_2, rfl, HA, HK2, HO_0, HK, HB⟩ := hrel
     cases gk with
     | zero => exact absurd HA.out (by simp [fact_Fact_47.l1])
     | succ k2 =>
      have H := HA.out; clear HA
      simp only [fact_Fact_47.l1] at H
      by_cases c6 : x9_2 > a1
      ·rw [if_pos c6] at H
       have c6b0 : decide (a1 < x9_2) = true := decide_eq_true c6
       clear c6
       by_cases c7 : 0 ≤ x9_2
       ·rw [if_pos c7] at H
        have c7b0 : decide (0 ≤ x9_2) = true := decide_eq_true c7
        clear c7
        by_cases c8 : x9_2 < (x0_2.length : Int)
        ·rw [if_pos c8] at H
         have c8b0 : decide (x9_2 < (x0_2.length : Int)) = true := decide_eq_true c8
         clear c8
         obtain ⟨ji9, hji9⟩ : ∃ j_ : Int, (wrap64 (x9_2 - 1)) = j_ := ⟨_, rfl⟩
         replace H : (if 0 ≤ (ji9) then (if (ji9) < (x0_2.length : Int) then ((fact_Of_1.f k2 ((rd_T55 x0_2 x9_2).f0.f0) ((rd_T55 x0_2 x9_2).f0.f1) ((rd_T55 x0_2 x9_2).f0.f2) ((rd_T55 x0_2 x9_2).f0.f3) ((rd_T55 x0_2 x9_2).f0.f4) ((rd_T55 x0_2 x9_2).f1) ((rd_T55 x0_2 (ji9)).f0.f0) ((rd_T55 x0_2 (ji9)).f0.f1) ((rd_T55 x0_2 (ji9)).f0.f2) ((rd_T55 x0_2 (ji9)).f0.f3) ((rd_T55 x0_2 (ji9)).f0.f4) ((rd_T55 x0_2 (ji9)).f1)).bind fun t123 => (if t123 < 0 then (fact_Fact_47.l1 k2 ((x0_2.set (x9_2 : Int).toNat (⟨(⟨(rd_T55 x0_2 (ji9)).f0.f0, (rd_T55 x0_2 (ji9)).f0.f1, (rd_T55 x0_2 (ji9)).f0.f2, (rd_T55 x0_2 (ji9)).f0.f3, (rd_T55 x0_2 (ji9)).f0.f4⟩ : S44), (rd_T55 x0_2 (ji9)).f1⟩ : S55)).set ((ji9) : Int).toNat (⟨(⟨(rd_T55 x0_2 x9_2).f0.f0, (rd_T55 x0_2 x9_2).f0.f1, (rd_T55 x0_2 x9_2).f0.f2, (rd_T55 x0_2 x9_2).f0.f3, (rd_T55 x0_2 x9_2).f0.f4⟩ : S44), (rd_T55 x0_2 x9_2).f1⟩ : S55)) a1 a2 x8_1 ji9) else (fact_Fact_47.l0 k2 x0_2 a1 a2 (wrap64 (x8_1 + 1))))) else (none)) else (none)) = some r := by first | (rw [hji9] at H; exact H) | (simp only [hji9] at H ⊢; exact H)
         have hji9w : (IntKind.i64.wrap (x9_2 - 1)) = ji9 := (i64_w _).trans hji9
         by_cases c10 : 0 ≤ (ji9)
         ·rw [if_pos c10] at H
          have c10b0 : decide (0 ≤ (ji9)) = true := decide_eq_true c10
          clear c10
          by_cases c11 : (ji9) < (x0_2.length : Int)
          ·rw [if_pos c11] at H
           have c11b0 : decide ((ji9) < (x0_2.length : Int)) = true := decide_eq_true c11
           clear c11
           replace H := Option.bind_eq_some_iff.mp H
           obtain ⟨t123, A120, H⟩ := H
           replace H : (if t123 < 0 then (fact_Fact_47.l1 k2 ((x0_2.set (x9_2 : Int).toNat (⟨(⟨(rd_T55 x0_2 (ji9)).f0.f0, (rd_T55 x0_2 (ji9)).f0.f1, (rd_T55 x0_2 (ji9)).f0.f2, (rd_T55 x0_2 (ji9)).f0.f3, (rd_T55 x0_2 (ji9)).f0.f4⟩ : S44), (rd_T55 x0_2 (ji9)).f1⟩ : S55)).set ((ji9) : Int).toNat (⟨(⟨(rd_T55 x0_2 x9_2).f0.f0, (rd_T55 x0_2 x9_2).f0.f1, (rd_T55 x0_2 x9_2).f0.f2, (rd_T55 x0_2 x9_2).f0.f3, (rd_T55 x0_2 x9_2).f0.f4⟩ : S44), (rd_T55 x0_2 x9_2).f1⟩ : S55)) a1 a2 x8_1 ji9) else (fact_Fact_47.l0 k2 x0_2 a1 a2 (wrap64 (x8_1 + 1)))) = some r := H
           have A12 := Aside0.mk A120; clear A120
           by_cases c13 : t123 < 0
           ·rw [if_pos c13] at H
            have c13b0 : decide (t123 < 0) = true := decide_eq_true c13
            clear c13
            obtain ⟨y126, hy126⟩ : ∃ y_ : List (S55), y_ = (x0_2.set (x9_2 : Int).toNat (⟨(⟨(rd_T55 x0_2 (ji9)).f0.f0, (rd_T55 x0_2 (ji9)).f0.f1, (rd_T55 x0_2 (ji9)).f0.f2, (rd_T55 x0_2 (ji9)).f0.f3, (rd_T55 x0_2 (ji9)).f0.f4⟩ : S44), (rd_T55 x0_2 (ji9)).f1⟩ : S55)) := ⟨_, rfl⟩
            replace H : (fact_Fact_47.l1 k2 (y126.set ((ji9) : Int).toNat (⟨(⟨(rd_T55 x0_2 x9_2).f0.f0, (rd_T55 x0_2 x9_2).f0.f1, (rd_T55 x0_2 x9_2).f0.f2, (rd_T55 x0_2 x9_2).f0.f3, (rd_T55 x0_2 x9_2).f0.f4⟩ : S44), (rd_T55 x0_2 x9_2).f1⟩ : S55)) a1 a2 x8_1 ji9) = some r := rh hy126 H
            have Ny126 := Aside0.mk hy126; clear hy126
            obtain ⟨y127, hy127⟩ : ∃ y_ : List (S55), y_ = (y126.set ((ji9) : Int).toNat (⟨(⟨(rd_T55 x0_2 x9_2).f0.f0, (rd_T55 x0_2 x9_2).f0.f1, (rd_T55 x0_2 x9_2).f0.f2, (rd_T55 x0_2 x9_2).f0.f3, (rd_T55 x0_2 x9_2).f0.f4⟩ : S44), (rd_T55 x0_2 x9_2).f1⟩ : S55)) := ⟨_, rfl⟩
            replace H : (fact_Fact_47.l1 k2 y127 a1 a2 x8_1 ji9) = some r := rh hy127 H
            have Ny127 := Aside0.mk hy127; clear hy127
            have H' := Aside0.mk H
            clear H
            try go_wp2
            have n0_ := Aside0.mk (Kd.R_drew HO_0.out)
            have n1_ := Aside0.mk (Kept.drew HK.out)
            have n2_ := Aside0.mk (below_drew1 HB.out)
            clear HO_0 HK HB; have HO_0 := n0_; have HK := n1_; have HB := n2_; clear n0_ n1_ n2_
            obtain ⟨Ao17, co17, eo17⟩ := Kd.R_slice HO_0.out
            (first | subst eo17 | (injection eo17 with f1_ f2_ f3_; have f4_ := f1_.symm; have f5_ := f3_.symm; clear f1_ f2_ f3_; subst f4_; subst f5_))
            have p121 : 0 ≤ (x9_2 : Int) := of_decide_eq_true as_
            have q121 : x9_2 < (x0_2.length : Int) := of_decide_eq_true as_
            obtain ⟨ad121, e121, hx121_0, hx121_1, hx121_2, hx121_3, hx121_4, hx121_5⟩ := at_T55 (Kd.R_reads' HO_0.out).2.2 x9_2 p121 q121
            cases e121; replace p121 := eq_true p121; replace q121 := eq_true q121
            have p122 : 0 ≤ ((ji9) : Int) := of_decide_eq_true as_
            have q122 : (ji9) < (x0_2.length : Int) := of_decide_eq_true as_
            obtain ⟨ad122, e122, hx122_0, hx122_1, hx122_2, hx122_3, hx122_4, hx122_5⟩ := at_T55 (Kd.R_reads' HO_0.out).2.2 (ji9) p122 q122
            obtain rfl : ad121 = ad122 := (by injection e122)
            replace p122 := eq_true p122; replace q122 := eq_true q122
            refine start_ (n := 17) (S := fun w' => w'.cell? (ad121.add ((x9_2).toNat * 6)) = some (.string ((rd_T55 x0_2 x9_2).f0.f0)) ∧ w'.cell? ⟨(ad121.add ((x9_2).toNat * 6)).block, (ad121.add ((x9_2).toNat * 6)).off + 1, none⟩ = some (.string ((rd_T55 x0_2 x9_2).f0.f1)) ∧ w'.cell? ⟨(ad121.add ((x9_2).toNat * 6)).block, (ad121.add ((x9_2).toNat * 6)).off + 2, none⟩ = some (.string ((rd_T55 x0_2 x9_2).f0.f2)) ∧ w'.cell? ⟨(ad121.add ((x9_2).toNat * 6)).block, (ad121.add ((x9_2).toNat * 6)).off + 3, none⟩ = some (.string ((rd_T55 x0_2 x9_2).f0.f3)) ∧ w'.cell? ⟨(ad121.add ((x9_2).toNat * 6)).block, (ad121.add ((x9_2).toNat * 6)).off + 4, none⟩ = some (.int .i64 ((rd_T55 x0_2 x9_2).f0.f4)) ∧ w'.cell? ⟨(ad121.add ((x9_2).toNat * 6)).block, (ad121.add ((x9_2).toNat * 6)).off + 5, none⟩ = some (.int .i64 ((rd_T55 x0_2 x9_2).f1)) ∧ w'.cell? (ad121.add (((ji9)).toNat * 6)) = some (.string ((rd_T55 x0_2 (ji9)).f0.f0)) ∧ w'.cell? ⟨(ad121.add (((ji9)).toNat * 6)).block, (ad121.add (((ji9)).toNat * 6)).off + 1, none⟩ = some (.string ((rd_T55 x0_2 (ji9)).f0.f1)) ∧ w'.cell? ⟨(ad121.add (((ji9)).toNat * 6)).block, (ad121.add (((ji9)).toNat * 6)).off + 2, none⟩ = some (.string ((rd_T55 x0_2 (ji9)).f0.f2)) ∧ w'.cell? ⟨(ad121.add (((ji9)).toNat * 6)).block, (ad121.add (((ji9)).toNat * 6)).off + 3, none⟩ = some (.string ((rd_T55 x0_2 (ji9)).f0.f3)) ∧ w'.cell? ⟨(ad121.add (((ji9)).toNat * 6)).block, (ad121.add (((ji9)).toNat * 6)).off + 4, none⟩ = some (.int .i64 ((rd_T55 x0_2 (ji9)).f0.f4)) ∧ w'.cell? ⟨(ad121.add (((ji9)).toNat * 6)).block, (ad121.add (((ji9)).toNat * 6)).off + 5, none⟩ = some (.int .i64 ((rd_T55 x0_2 (ji9)).f1))) (ds := []) (fl 17 0) (by kernel_rfl) rfl rfl ⟨hx121_0, hx121_1, hx121_2, hx121_3, hx121_4, hx121_5, hx122_0, hx122_1, hx122_2, hx122_3, hx122_4, hx122_5⟩ (fun hHeld => ?_); refine with_tabW fact_Fact_47.tab4 fact_Fact_47.bits4 (fun HT_ HW_ => ?_)
            generalize wr.drew = w16 at HO_0 HK HB hx121_0 hx121_1 hx121_2 hx121_3 hx121_4 hx121_5 hx122_0 hx122_1 hx122_2 hx122_3 hx122_4 hx122_5 hHeld ⊢
            refine pu 0 (some 18) (fl 17 1) HT_ ?_
            refine pu 1 (some 19) (fl 17 3) HT_ ?_
            refine pu 2 (some 20) (fl 17 7) HT_ ?_
            refine pu 3 (some 21) (fl 17 15) HT_ ?_
            refine pu 4 (some 22) (fl 17 31) HT_ ?_
            refine pu 5 (some 23) (fl 17 63) HT_ ?_
            refine pu 6 (some 24) (fl 17 127) HT_ ?_
            refine pu 7 (some 25) (fl 17 255) HT_ ?_
            refine pu 9 (some 27) (fl 17 767) HT_ ?_
            refine pu 10 (some 28) (fl 17 1791) HT_ ?_
            refine pu 11 (some 29) (fl 17 3839) HT_ ?_
            refine pu 12 (some 30) (fl 17 7935) HT_ ?_
            refine tu 8 (some 26) (fl 17 8191) HT_ HW_ hHeld ?_
            refine tu 13 (some 31) (fl 17 16383) HT_ HW_ hHeld ?_
            refine one_ (i := 14) (N := some 32) (fl 17 32767) rfl rfl (one_of HT_.out (by kernel_rfl)) (by decide) (fun K hK => ?_)
            refine goesV_ Try.func34 (by kernel_rfl) rfl #[.agg #[.string ((rd_T55 x0_2 x9_2).f0.f0), .string ((rd_T55 x0_2 x9_2).f0.f1), .string ((rd_T55 x0_2 x9_2).f0.f2), .string ((rd_T55 x0_2 x9_2).f0.f3), .int .i64 ((rd_T55 x0_2 x9_2).f0.f4), .int .i64 ((rd_T55 x0_2 x9_2).f1)], .agg #[.string ((rd_T55 x0_2 (ji9)).f0.f0), .string ((rd_T55 x0_2 (ji9)).f0.f1), .string ((rd_T55 x0_2 (ji9)).f0.f2), .string ((rd_T55 x0_2 (ji9)).f0.f3), .int .i64 ((rd_T55 x0_2 (ji9)).f0.f4), .int .i64 ((rd_T55 x0_2 (ji9)).f1)]] (by rfl) rfl rfl rfl (by (try simp only [List.map_toArray, List.map_cons, List.map_nil]); first | done | (simp only [hji9]; rfl) | rfl | (simp only [List.length_drop, List.length_take]; rfl)) ?_
            with_reducible refine (fact_Of_1.calls k2 ((rd_T55 x0_2 x9_2).f0.f0) ((rd_T55 x0_2 x9_2).f0.f1) ((rd_T55 x0_2 x9_2).f0.f2) ((rd_T55 x0_2 x9_2).f0.f3) ((rd_T55 x0_2 x9_2).f0.f4) ((rd_T55 x0_2 x9_2).f1) ((rd_T55 x0_2 (ji9)).f0.f0) ((rd_T55 x0_2 (ji9)).f0.f1) ((rd_T55 x0_2 (ji9)).f0.f2) ((rd_T55 x0_2 (ji9)).f0.f3) ((rd_T55 x0_2 (ji9)).f0.f4) ((rd_T55 x0_2 (ji9)).f1) t123 _ A12.out).mono ?_
            rintro e w18 ⟨rfl, hb⟩
            have HS0_ := cb2 hb hHeld.1
            have HS1_ := cb2 hb hHeld.2.1
            have HS2_ := cb2 hb hHeld.2.2.1
            have HS3_ := cb2 hb hHeld.2.2.2.1
            have HS4_ := cb2 hb hHeld.2.2.2.2.1
            have HS5_ := cb2 hb hHeld.2.2.2.2.2.1
            have HS6_ := cb2 hb hHeld.2.2.2.2.2.2.1
            have HS7_ := cb2 hb hHeld.2.2.2.2.2.2.2.1
            have HS8_ := cb2 hb hHeld.2.2.2.2.2.2.2.2.1
            have HS9_ := cb2 hb hHeld.2.2.2.2.2.2.2.2.2.1
            have HS10_ := cb2 hb hHeld.2.2.2.2.2.2.2.2.2.2.1
            have HS11_ := cb2 hb hHeld.2.2.2.2.2.2.2.2.2.2.2
            refine ⟨_, rfl, ?_⟩
            have n0_ := Aside0.mk (Kd.R_below (kr HO_0) hb)
            have n1_ := Aside0.mk (Kept.below (S := (fun k_ => P0_ k_)) kp_ hb)
            have n2_ := Aside0.mk (below_step bw hb)
            clear HO_0 HK HB; have HO_0 := n0_; have HK := n1_; have HB := n2_; clear n0_ n1_ n2_
            (try clear hb)
            (try clear hb2)
            (try clear hk)
            (try clear hi)
            refine hK.out _ _ ⟨HS0_, HS1_, HS2_, HS3_, HS4_, HS5_, HS6_, HS7_, HS8_, HS9_, HS10_, HS11_⟩ (fun hHeld => ?_)
            clear hK K
            refine norm_ (a' := ?_) ?_ ?_
            rotate_left
            ·show Act.put _ (some 32) _ = _
             simp only [Act.put, List.setIfInBounds_toArray, List.set_cons_zero, List.set_cons_succ, i64_w, i32_w]
             rfl
            refine pu 15 (some 33) (fl 17 65535) HT_ ?_
            refine pu 16 (some 34) (fl 17 131071) HT_ ?_
            refine done_ (done_of HT_.out (by kernel_rfl)) ?_
            try go_wp2
            have n0_ := Aside0.mk (Kd.R_drew HO_0.out)
            have n1_ := Aside0.mk (Kept.drew HK.out)
            have n2_ := Aside0.mk (below_drew1 HB.out)
            clear HO_0 HK HB; have HO_0 := n0_; have HK := n1_; have HB := n2_; clear n0_ n1_ n2_
            have p124 : 0 ≤ ((ji9) : Int) := of_decide_eq_true as_
            have q124 : (ji9) < (x0_2.length : Int) := of_decide_eq_true as_
            obtain ⟨ad124, e124, hx124_0, hx124_1, hx124_2, hx124_3, hx124_4, hx124_5⟩ := at_T55 (Kd.R_reads' HO_0.out).2.2 (ji9) p124 q124
            obtain rfl : ad121 = ad124 := (by injection e124)
            replace p124 := eq_true p124; replace q124 := eq_true q124
            have p125 : 0 ≤ (x9_2 : Int) := of_decide_eq_true as_
            have q125 : x9_2 < (x0_2.length : Int) := of_decide_eq_true as_
            obtain ⟨ad125, e125, hx125_0, hx125_1, hx125_2, hx125_3, hx125_4, hx125_5⟩ := at_T55 (Kd.R_reads' HO_0.out).2.2 x9_2 p125 q125
            obtain rfl : ad121 = ad125 := (by injection e125)
            replace p125 := eq_true p125; replace q125 := eq_true q125
            have p14 : 0 ≤ (x9_2 : Int) := of_decide_eq_true as_
            have q14 : (x9_2 : Int) < ((x0_2.length : Int) : Int) := of_decide_eq_true as_
            obtain ⟨go14, co14, eo14, gb14, gl14, cl14, HG14⟩ := Kd.R_form HO_0.out (by omega)
            (first | cases eo14 | (injection eo14 with ea_ en_ ec_; (first | subst ea_ | (injection ea_ with ea_; subst ea_)); subst ec_; clear en_))
            have GB14 := Aside0.mk gb14; have GG14 := Aside0.mk HG14; clear gb14 gl14 HG14
            have HMgo14 := Aside0.mk (show (P0_ go14 ∨ w.heap.size ≤ go14) from (HO_0.out.1 _ rfl))
            (first | simp only [add_plain] at hx121_0 | skip)
            (first | simp only [add_plain] at hx121_1 | skip)
            (first | simp only [add_plain] at hx121_2 | skip)
            (first | simp only [add_plain] at hx121_3 | skip)
            (first | simp only [add_plain] at hx121_4 | skip)
            (first | simp only [add_plain] at hx121_5 | skip)
            (first | simp only [add_plain] at hx122_0 | skip)
            (first | simp only [add_plain] at hx122_1 | skip)
            (first | simp only [add_plain] at hx122_2 | skip)
            (first | simp only [add_plain] at hx122_3 | skip)
            (first | simp only [add_plain] at hx122_4 | skip)
            (first | simp only [add_plain] at hx122_5 | skip)
            (first | simp only [add_plain] at hx124_0 | skip)
            (first | simp only [add_plain] at hx124_1 | skip)
            (first | simp only [add_plain] at hx124_2 | skip)
            (first | simp only [add_plain] at hx124_3 | skip)
            (first | simp only [add_plain] at hx124_4 | skip)
            (first | simp only [add_plain] at hx124_5 | skip)
            (first | simp only [add_plain] at hx125_0 | skip)
            (first | simp only [add_plain] at hx125_1 | skip)
            (first | simp only [add_plain] at hx125_2 | skip)
            (first | simp only [add_plain] at hx125_3 | skip)
            (first | simp only [add_plain] at hx125_4 | skip)
            (first | simp only [add_plain] at hx125_5 | skip)
            obtain ⟨ce14, hcl14, hM14, hcc14, hfr14⟩ := Kd.R_elem HO_0.out z55 (x9_2 : Int) p14 q14
            obtain rfl := k55_openM hM14
            have hx14_0 : World.cell? _ ⟨go14, (x9_2 : Int).toNat * 6, none⟩ = some (.string ((rd_T55 x0_2 x9_2).f0.f0)) := hcc14 0 _ rfl
            have hx14_1 : World.cell? _ ⟨go14, (x9_2 : Int).toNat * 6 + 1, none⟩ = some (.string ((rd_T55 x0_2 x9_2).f0.f1)) := hcc14 1 _ rfl
            have hx14_2 : World.cell? _ ⟨go14, (x9_2 : Int).toNat * 6 + 2, none⟩ = some (.string ((rd_T55 x0_2 x9_2).f0.f2)) := hcc14 2 _ rfl
            have hx14_3 : World.cell? _ ⟨go14, (x9_2 : Int).toNat * 6 + 3, none⟩ = some (.string ((rd_T55 x0_2 x9_2).f0.f3)) := hcc14 3 _ rfl
            have hx14_4 : World.cell? _ ⟨go14, (x9_2 : Int).toNat * 6 + 4, none⟩ = some (.int .i64 ((rd_T55 x0_2 x9_2).f0.f4)) := hcc14 4 _ rfl
            have hx14_5 : World.cell? _ ⟨go14, (x9_2 : Int).toNat * 6 + 5, none⟩ = some (.int .i64 ((rd_T55 x0_2 x9_2).f1)) := hcc14 5 _ rfl
            have hf14_0 : World.frozen? _ ⟨go14, (x9_2 : Int).toNat * 6, none⟩ = false := hfr14 0
            have hf14_1 : World.frozen? _ ⟨go14, (x9_2 : Int).toNat * 6 + 1, none⟩ = false := hfr14 1
            have hf14_2 : World.frozen? _ ⟨go14, (x9_2 : Int).toNat * 6 + 2, none⟩ = false := hfr14 2
            have hf14_3 : World.frozen? _ ⟨go14, (x9_2 : Int).toNat * 6 + 3, none⟩ = false := hfr14 3
            have hf14_4 : World.frozen? _ ⟨go14, (x9_2 : Int).toNat * 6 + 4, none⟩ = false := hfr14 4
            have hf14_5 : World.frozen? _ ⟨go14, (x9_2 : Int).toNat * 6 + 5, none⟩ = false := hfr14 5
            clear hcl14 hcc14 hfr14 hM14; replace p14 := eq_true p14; replace q14 := eq_true q14
            obtain ⟨ce20, hcl20, hM20, hcc20, hfr20⟩ := Kd.R_elem HO_0.out z55 (x9_2 : Int) (of_decide_eq_true as_) (by have h_ : (x9_2 : Int) < ((x0_2.length : Int) : Int) := of_decide_eq_true as_; first | exact h_ | (have e_ := (Kd.R_reads' HO_0.out).1; omega) | simpa using h_)
            obtain rfl := k55_openM hM20
            have HP20 := (Kd.R_seg HO_0.out (x9_2 : Int) (of_decide_eq_true as_) (by have h_ : (x9_2 : Int) < ((x0_2.length : Int) : Int) := of_decide_eq_true as_; first | exact h_ | (have e_ := (Kd.R_reads' HO_0.out).1; omega) | simpa using h_) (seg := [.string ((rd_T55 x0_2 (ji9)).f0.f0), .string ((rd_T55 x0_2 (ji9)).f0.f1), .string ((rd_T55 x0_2 (ji9)).f0.f2), .string ((rd_T55 x0_2 (ji9)).f0.f3), .int .i64 ((rd_T55 x0_2 (ji9)).f0.f4), .int .i64 ((rd_T55 x0_2 (ji9)).f1)]) (j := 0) hcl20 hcc20 (show 6 ≤ 6 from by decide) (x' := (⟨(⟨(rd_T55 x0_2 (ji9)).f0.f0, (rd_T55 x0_2 (ji9)).f0.f1, (rd_T55 x0_2 (ji9)).f0.f2, (rd_T55 x0_2 (ji9)).f0.f3, (rd_T55 x0_2 (ji9)).f0.f4⟩ : S44), (rd_T55 x0_2 (ji9)).f1⟩ : S55)) (k55_mkM _ _ _ (⟨(⟨(rd_T55 x0_2 (ji9)).f0.f0, (rd_T55 x0_2 (ji9)).f0.f1, (rd_T55 x0_2 (ji9)).f0.f2, (rd_T55 x0_2 (ji9)).f0.f3, (rd_T55 x0_2 (ji9)).f0.f4⟩ : S44), (rd_T55 x0_2 (ji9)).f1⟩ : S55) ) (fun _ hk => hk)).1
            rw [← Ny126.out] at HP20
            have HQ20 := Aside0.mk HP20; clear hcl20 hcc20 hfr20 hM20 HP20
            have p15 : 0 ≤ ((ji9) : Int) := of_decide_eq_true as_
            have q15 : ((ji9) : Int) < ((x0_2.length : Int) : Int) := of_decide_eq_true as_
            obtain ⟨ce15, hcl15, hM15, hcc15, hfr15⟩ := Kd.R_elem HQ20.out z55 ((ji9) : Int) p15 q15
            obtain rfl := k55_openM hM15
            have hx15_0 : World.cell? _ ⟨go14, ((ji9) : Int).toNat * 6, none⟩ = some (.string ((rd_T55 y126 (ji9)).f0.f0)) := hcc15 0 _ rfl
            have hx15_1 : World.cell? _ ⟨go14, ((ji9) : Int).toNat * 6 + 1, none⟩ = some (.string ((rd_T55 y126 (ji9)).f0.f1)) := hcc15 1 _ rfl
            have hx15_2 : World.cell? _ ⟨go14, ((ji9) : Int).toNat * 6 + 2, none⟩ = some (.string ((rd_T55 y126 (ji9)).f0.f2)) := hcc15 2 _ rfl
            have hx15_3 : World.cell? _ ⟨go14, ((ji9) : Int).toNat * 6 + 3, none⟩ = some (.string ((rd_T55 y126 (ji9)).f0.f3)) := hcc15 3 _ rfl
            have hx15_4 : World.cell? _ ⟨go14, ((ji9) : Int).toNat * 6 + 4, none⟩ = some (.int .i64 ((rd_T55 y126 (ji9)).f0.f4)) := hcc15 4 _ rfl
            have hx15_5 : World.cell? _ ⟨go14, ((ji9) : Int).toNat * 6 + 5, none⟩ = some (.int .i64 ((rd_T55 y126 (ji9)).f1)) := hcc15 5 _ rfl
            have hf15_0 : World.frozen? _ ⟨go14, ((ji9) : Int).toNat * 6, none⟩ = false := hfr15 0
            have hf15_1 : World.frozen? _ ⟨go14, ((ji9) : Int).toNat * 6 + 1, none⟩ = false := hfr15 1
            have hf15_2 : World.frozen? _ ⟨go14, ((ji9) : Int).toNat * 6 + 2, none⟩ = false := hfr15 2
            have hf15_3 : World.frozen? _ ⟨go14, ((ji9) : Int).toNat * 6 + 3, none⟩ = false := hfr15 3
            have hf15_4 : World.frozen? _ ⟨go14, ((ji9) : Int).toNat * 6 + 4, none⟩ = false := hfr15 4
            have hf15_5 : World.frozen? _ ⟨go14, ((ji9) : Int).toNat * 6 + 5, none⟩ = false := hfr15 5
            clear hcl15 hcc15 hfr15 hM15; replace p15 := eq_true p15; replace q15 := eq_true q15
            obtain ⟨ce21, hcl21, hM21, hcc21, hfr21⟩ := Kd.R_elem HQ20.out z55 ((ji9) : Int) (of_decide_eq_true as_) (by have h_ : ((ji9) : Int) < ((x0_2.length : Int) : Int) := of_decide_eq_true as_; first | exact h_ | (have e_ := (Kd.R_reads' HO_0.out).1; omega) | simpa using h_)
            obtain rfl := k55_openM hM21
            have HP21 := (Kd.R_seg HQ20.out ((ji9) : Int) (of_decide_eq_true as_) (by have h_ : ((ji9) : Int) < ((x0_2.length : Int) : Int) := of_decide_eq_true as_; first | exact h_ | (have e_ := (Kd.R_reads' HO_0.out).1; omega) | simpa using h_) (seg := [.string ((rd_T55 x0_2 x9_2).f0.f0), .string ((rd_T55 x0_2 x9_2).f0.f1), .string ((rd_T55 x0_2 x9_2).f0.f2), .string ((rd_T55 x0_2 x9_2).f0.f3), .int .i64 ((rd_T55 x0_2 x9_2).f0.f4), .int .i64 ((rd_T55 x0_2 x9_2).f1)]) (j := 0) hcl21 hcc21 (show 6 ≤ 6 from by decide) (x' := (⟨(⟨(rd_T55 x0_2 x9_2).f0.f0, (rd_T55 x0_2 x9_2).f0.f1, (rd_T55 x0_2 x9_2).f0.f2, (rd_T55 x0_2 x9_2).f0.f3, (rd_T55 x0_2 x9_2).f0.f4⟩ : S44), (rd_T55 x0_2 x9_2).f1⟩ : S55)) (k55_mkM _ _ _ (⟨(⟨(rd_T55 x0_2 x9_2).f0.f0, (rd_T55 x0_2 x9_2).f0.f1, (rd_T55 x0_2 x9_2).f0.f2, (rd_T55 x0_2 x9_2).f0.f3, (rd_T55 x0_2 x9_2).f0.f4⟩ : S44), (rd_T55 x0_2 x9_2).f1⟩ : S55) ) (fun _ hk => hk)).1
            rw [← Ny127.out] at HP21
            have HQ21 := Aside0.mk HP21; clear hcl21 hcc21 hfr21 hM21 HP21
            refine start_ (n := 18) (S := fun w' => w'.cell? ⟨go14, ((ji9)).toNat * 6, none⟩ = some (.string ((rd_T55 x0_2 (ji9)).f0.f0)) ∧ w'.cell? ⟨go14, ((ji9)).toNat * 6 + 1, none⟩ = some (.string ((rd_T55 x0_2 (ji9)).f0.f1)) ∧ w'.cell? ⟨go14, ((ji9)).toNat * 6 + 2, none⟩ = some (.string ((rd_T55 x0_2 (ji9)).f0.f2)) ∧ w'.cell? ⟨go14, ((ji9)).toNat * 6 + 3, none⟩ = some (.string ((rd_T55 x0_2 (ji9)).f0.f3)) ∧ w'.cell? ⟨go14, ((ji9)).toNat * 6 + 4, none⟩ = some (.int .i64 ((rd_T55 x0_2 (ji9)).f0.f4)) ∧ w'.cell? ⟨go14, ((ji9)).toNat * 6 + 5, none⟩ = some (.int .i64 ((rd_T55 x0_2 (ji9)).f1)) ∧ w'.cell? ⟨go14, ((x9_2).toNat * 6), none⟩ = some (.string ((rd_T55 x0_2 x9_2).f0.f0)) ∧ w'.cell? ⟨go14, ((x9_2).toNat * 6) + 1, none⟩ = some (.string ((rd_T55 x0_2 x9_2).f0.f1)) ∧ w'.cell? ⟨go14, ((x9_2).toNat * 6) + 2, none⟩ = some (.string ((rd_T55 x0_2 x9_2).f0.f2)) ∧ w'.cell? ⟨go14, ((x9_2).toNat * 6) + 3, none⟩ = some (.string ((rd_T55 x0_2 x9_2).f0.f3)) ∧ w'.cell? ⟨go14, ((x9_2).toNat * 6) + 4, none⟩ = some (.int .i64 ((rd_T55 x0_2 x9_2).f0.f4)) ∧ w'.cell? ⟨go14, ((x9_2).toNat * 6) + 5, none⟩ = some (.int .i64 ((rd_T55 x0_2 x9_2).f1))) (ds := [15, 17]) (fl 18 0) (by kernel_rfl) rfl rfl ⟨hx124_0, hx124_1, hx124_2, hx124_3, hx124_4, hx124_5, hx125_0, hx125_1, hx125_2, hx125_3, hx125_4, hx125_5⟩ (fun hHeld => ?_); refine with_tabW fact_Fact_47.tab6 fact_Fact_47.bits6 (fun HT_ HW_ => ?_)
            generalize w18.drew = w19 at HO_0 HK HB GG14 HQ20 HQ21 hf14_0 hf14_1 hf14_2 hf14_3 hf14_4 hf14_5 hf15_0 hf15_1 hf15_2 hf15_3 hf15_4 hf15_5 hx121_0 hx121_1 hx121_2 hx121_3 hx121_4 hx121_5 hx122_0 hx122_1 hx122_2 hx122_3 hx122_4 hx122_5 hx124_0 hx124_1 hx124_2 hx124_3 hx124_4 hx124_5 hx125_0 hx125_1 hx125_2 hx125_3 hx125_4 hx125_5 hx14_0 hx14_1 hx14_2 hx14_3 hx14_4 hx14_5 hx15_0 hx15_1 hx15_2 hx15_3 hx15_4 hx15_5 hHeld ⊢
            refine pu 0 (some 37) (fl 18 1) HT_ ?_
            refine pu 1 (some 38) (fl 18 3) HT_ ?_
            refine pu 2 (some 39) (fl 18 7) HT_ ?_
            refine pu 3 (some 40) (fl 18 15) HT_ ?_
            refine pu 4 (some 41) (fl 18 31) HT_ ?_
            refine pu 5 (some 42) (fl 18 63) HT_ ?_
            refine pu 6 (some 43) (fl 18 127) HT_ ?_
            refine pu 7 (some 44) (fl 18 255) HT_ ?_
            refine pu 8 (some 45) (fl 18 511) HT_ ?_
            refine pu 10 (some 47) (fl 18 1535) HT_ ?_
            refine pu 11 (some 48) (fl 18 3583) HT_ ?_
            refine pu 12 (some 49) (fl 18 7679) HT_ ?_
            refine tu 9 (some 46) (fl 18 8191) HT_ HW_ hHeld ?_
            refine tu 13 (some 50) (fl 18 16383) HT_ HW_ hHeld ?_
            refine pu 14 (some 51) (fl 18 32767) HT_ ?_
            refine last_ (i := 15) (N := none) (fl 18 65535) rfl rfl (one_of HT_.out (by kernel_rfl)) (by decide) (fun K hK => ?_)
            refine skip_ (w1 := ?_) (by rfl) rfl ?_ ?_
            rotate_left
            ·go_simp; rfl
            refine hK.out _ _ ?_
            clear hK K
            refine pu 16 (some 52) (fl 18 131071) HT_ ?_
            refine last_ (i := 17) (N := none) (fl 18 262143) rfl rfl (one_of HT_.out (by kernel_rfl)) (by decide) (fun K hK => ?_)
            refine skip_ (w1 := ?_) (by rfl) rfl ?_ ?_
            rotate_left
            ·obtain ⟨gv_0_0, gy_0_0⟩ := cell?_setCell_some (p := ⟨go14, (x9_2).toNat * 6, none⟩) (x := .string ((rd_T55 x0_2 (ji9)).f0.f0)) hx124_0
             obtain ⟨gv_1_0, gy_1_0⟩ := cell?_setCell_some (p := ⟨go14, (x9_2).toNat * 6, none⟩) (x := .string ((rd_T55 x0_2 (ji9)).f0.f0)) hx124_1
             obtain ⟨gv_1_1, gy_1_1⟩ := cell?_setCell_some (p := ⟨go14, (x9_2).toNat * 6 + 1, none⟩) (x := .string ((rd_T55 x0_2 (ji9)).f0.f1)) gy_1_0
             clear gy_1_0
             obtain ⟨gv_2_0, gy_2_0⟩ := cell?_setCell_some (p := ⟨go14, (x9_2).toNat * 6, none⟩) (x := .string ((rd_T55 x0_2 (ji9)).f0.f0)) hx124_2
             obtain ⟨gv_2_1, gy_2_1⟩ := cell?_setCell_some (p := ⟨go14, (x9_2).toNat * 6 + 1, none⟩) (x := .string ((rd_T55 x0_2 (ji9)).f0.f1)) gy_2_0
             obtain ⟨gv_2_2, gy_2_2⟩ := cell?_setCell_some (p := ⟨go14, (x9_2).toNat * 6 + 2, none⟩) (x := .string ((rd_T55 x0_2 (ji9)).f0.f2)) gy_2_1
             clear gy_2_0 gy_2_1
             obtain ⟨gv_3_0, gy_3_0⟩ := cell?_setCell_some (p := ⟨go14, (x9_2).toNat * 6, none⟩) (x := .string ((rd_T55 x0_2 (ji9)).f0.f0)) hx124_3
             obtain ⟨gv_3_1, gy_3_1⟩ := cell?_setCell_some (p := ⟨go14, (x9_2).toNat * 6 + 1, none⟩) (x := .string ((rd_T55 x0_2 (ji9)).f0.f1)) gy_3_0
             obtain ⟨gv_3_2, gy_3_2⟩ := cell?_setCell_some (p := ⟨go14, (x9_2).toNat * 6 + 2, none⟩) (x := .string ((rd_T55 x0_2 (ji9)).f0.f2)) gy_3_1
             obtain ⟨gv_3_3, gy_3_3⟩ := cell?_setCell_some (p := ⟨go14, (x9_2).toNat * 6 + 3, none⟩) (x := .string ((rd_T55 x0_2 (ji9)).f0.f3)) gy_3_2
             clear gy_3_0 gy_3_1 gy_3_2
             obtain ⟨gv_4_0, gy_4_0⟩ := cell?_setCell_some (p := ⟨go14, (x9_2).toNat * 6, none⟩) (x := .string ((rd_T55 x0_2 (ji9)).f0.f0)) hx124_4
             obtain ⟨gv_4_1, gy_4_1⟩ := cell?_setCell_some (p := ⟨go14, (x9_2).toNat * 6 + 1, none⟩) (x := .string ((rd_T55 x0_2 (ji9)).f0.f1)) gy_4_0
             obtain ⟨gv_4_2, gy_4_2⟩ := cell?_setCell_some (p := ⟨go14, (x9_2).toNat * 6 + 2, none⟩) (x := .string ((rd_T55 x0_2 (ji9)).f0.f2)) gy_4_1
             obtain ⟨gv_4_3, gy_4_3⟩ := cell?_setCell_some (p := ⟨go14, (x9_2).toNat * 6 + 3, none⟩) (x := .string ((rd_T55 x0_2 (ji9)).f0.f3)) gy_4_2
             obtain ⟨gv_4_4, gy_4_4⟩ := cell?_setCell_some (p := ⟨go14, (x9_2).toNat * 6 + 4, none⟩) (x := .int .i64 ((rd_T55 x0_2 (ji9)).f0.f4)) gy_4_3
             clear gy_4_0 gy_4_1 gy_4_2 gy_4_3
             obtain ⟨gv_5_0, gy_5_0⟩ := cell?_setCell_some (p := ⟨go14, (x9_2).toNat * 6, none⟩) (x := .string ((rd_T55 x0_2 (ji9)).f0.f0)) hx124_5
             obtain ⟨gv_5_1, gy_5_1⟩ := cell?_setCell_some (p := ⟨go14, (x9_2).toNat * 6 + 1, none⟩) (x := .string ((rd_T55 x0_2 (ji9)).f0.f1)) gy_5_0
             obtain ⟨gv_5_2, gy_5_2⟩ := cell?_setCell_some (p := ⟨go14, (x9_2).toNat * 6 + 2, none⟩) (x := .string ((rd_T55 x0_2 (ji9)).f0.f2)) gy_5_1
             obtain ⟨gv_5_3, gy_5_3⟩ := cell?_setCell_some (p := ⟨go14, (x9_2).toNat * 6 + 3, none⟩) (x := .string ((rd_T55 x0_2 (ji9)).f0.f3)) gy_5_2
             obtain ⟨gv_5_4, gy_5_4⟩ := cell?_setCell_some (p := ⟨go14, (x9_2).toNat * 6 + 4, none⟩) (x := .int .i64 ((rd_T55 x0_2 (ji9)).f0.f4)) gy_5_3
             obtain ⟨gv_5_5, gy_5_5⟩ := cell?_setCell_some (p := ⟨go14, (x9_2).toNat * 6 + 5, none⟩) (x := .int .i64 ((rd_T55 x0_2 (ji9)).f1)) gy_5_4
             clear gy_5_0 gy_5_1 gy_5_2 gy_5_3 gy_5_4
             obtain ⟨_, _, _, _, gfr_⟩ := Kd.R_elem HO_0.out z55 ((ji9) : Int) (of_eq_true p124) (of_eq_true q124)
             have gf_0 : World.frozen? _ ⟨go14, (ji9).toNat * 6, none⟩ = false := gfr_ 0
             have gf_1 : World.frozen? _ ⟨go14, (ji9).toNat * 6 + 1, none⟩ = false := gfr_ 1
             have gf_2 : World.frozen? _ ⟨go14, (ji9).toNat * 6 + 2, none⟩ = false := gfr_ 2
             have gf_3 : World.frozen? _ ⟨go14, (ji9).toNat * 6 + 3, none⟩ = false := gfr_ 3
             have gf_4 : World.frozen? _ ⟨go14, (ji9).toNat * 6 + 4, none⟩ = false := gfr_ 4
             have gf_5 : World.frozen? _ ⟨go14, (ji9).toNat * 6 + 5, none⟩ = false := gfr_ 5
             clear gfr_; go_simp; rfl
            refine hK.out _ _ ?_
            clear hK K
            refine done_ (done_of HT_.out (by kernel_rfl)) ?_
            try go_wp2
            go_roundg k2
            case measure => have := HK1.out; have := HK2.out; omega
            case rel => exact ⟨(y127), (ji9), (by first | rfl | (simp; done) | (simp only [← hji9] <;> (first | rfl | simp)) | (simp [*]; done)), H', ⟨by have := HK1.out; have := HK2.out; omega⟩, ⟨kr HQ21⟩, ⟨by repeat (first | (with_reducible first | exact HK.out | apply Kept.alloc | apply Kept.drewN | apply Kept.drew | refine Kept.setCell ?_ HMgo14.out _ | refine Kept.setCell ?_ HMgo14.out _ | refine Kept.setCell ?_ HMgo14.out _ | refine Kept.setCell ?_ HMgo14.out _ | refine Kept.setCell ?_ HMgo14.out _ | refine Kept.setCell ?_ HMgo14.out _ | refine Kept.setCell ?_ HMgo14.out _ | refine Kept.setCell ?_ HMgo14.out _ | refine Kept.setCell ?_ HMgo14.out _ | refine Kept.setCell ?_ HMgo14.out _ | refine Kept.setCell ?_ HMgo14.out _ | refine Kept.setCell ?_ HMgo14.out _) | exact HK.out)⟩, ⟨by repeat (first | (with_reducible first | exact HB.out | apply below_alloc | apply pw_below_drewN | apply below_drew1 | refine below_set ?_ GB14.out | refine below_set ?_ GB14.out | refine below_set ?_ GB14.out | refine below_set ?_ GB14.out | refine below_set ?_ GB14.out | refine below_set ?_ GB14.out | refine below_set ?_ GB14.out | refine below_set ?_ GB14.out | refine below_set ?_ GB14.out | refine below_set ?_ GB14.out | refine below_set ?_ GB14.out | refine below_set ?_ GB14.out) | exact HB.out)⟩⟩
           ·rw [if_neg c13] at H
            have c13b0 : decide (t123 < 0) = false := decide_eq_false c13
            clear c13
            have H' := Aside0.mk H
            clear H
            try go_wp2
            have n0_ := Aside0.mk (Kd.R_drew HO_0.out)
            have n1_ := Aside0.mk (Kept.drew HK.out)
            have n2_ := Aside0.mk (below_drew1 HB.out)
            clear HO_0 HK HB; have HO_0 := n0_; have HK := n1_; have HB := n2_; clear n0_ n1_ n2_
            obtain ⟨Ao23, co23, eo23⟩ := Kd.R_slice HO_0.out
            (first | subst eo23 | (injection eo23 with f1_ f2_ f3_; have f4_ := f1_.symm; have f5_ := f3_.symm; clear f1_ f2_ f3_; subst f4_; subst f5_))
            have p121 : 0 ≤ (x9_2 : Int) := of_decide_eq_true as_
            have q121 : x9_2 < (x0_2.length : Int) := of_decide_eq_true as_
            obtain ⟨ad121, e121, hx121_0, hx121_1, hx121_2, hx121_3, hx121_4, hx121_5⟩ := at_T55 (Kd.R_reads' HO_0.out).2.2 x9_2 p121 q121
            cases e121; replace p121 := eq_true p121; replace q121 := eq_true q121
            have p122 : 0 ≤ ((ji9) : Int) := of_decide_eq_true as_
            have q122 : (ji9) < (x0_2.length : Int) := of_decide_eq_true as_
            obtain ⟨ad122, e122, hx122_0, hx122_1, hx122_2, hx122_3, hx122_4, hx122_5⟩ := at_T55 (Kd.R_reads' HO_0.out).2.2 (ji9) p122 q122
            obtain rfl : ad121 = ad122 := (by injection e122)
            replace p122 := eq_true p122; replace q122 := eq_true q122
            refine start_ (n := 17) (S := fun w' => w'.cell? (ad121.add ((x9_2).toNat * 6)) = some (.string ((rd_T55 x0_2 x9_2).f0.f0)) ∧ w'.cell? ⟨(ad121.add ((x9_2).toNat * 6)).block, (ad121.add ((x9_2).toNat * 6)).off + 1, none⟩ = some (.string ((rd_T55 x0_2 x9_2).f0.f1)) ∧ w'.cell? ⟨(ad121.add ((x9_2).toNat * 6)).block, (ad121.add ((x9_2).toNat * 6)).off + 2, none⟩ = some (.string ((rd_T55 x0_2 x9_2).f0.f2)) ∧ w'.cell? ⟨(ad121.add ((x9_2).toNat * 6)).block, (ad121.add ((x9_2).toNat * 6)).off + 3, none⟩ = some (.string ((rd_T55 x0_2 x9_2).f0.f3)) ∧ w'.cell? ⟨(ad121.add ((x9_2).toNat * 6)).block, (ad121.add ((x9_2).toNat * 6)).off + 4, none⟩ = some (.int .i64 ((rd_T55 x0_2 x9_2).f0.f4)) ∧ w'.cell? ⟨(ad121.add ((x9_2).toNat * 6)).block, (ad121.add ((x9_2).toNat * 6)).off + 5, none⟩ = some (.int .i64 ((rd_T55 x0_2 x9_2).f1)) ∧ w'.cell? (ad121.add (((ji9)).toNat * 6)) = some (.string ((rd_T55 x0_2 (ji9)).f0.f0)) ∧ w'.cell? ⟨(ad121.add (((ji9)).toNat * 6)).block, (ad121.add (((ji9)).toNat * 6)).off + 1, none⟩ = some (.string ((rd_T55 x0_2 (ji9)).f0.f1)) ∧ w'.cell? ⟨(ad121.add (((ji9)).toNat * 6)).block, (ad121.add (((ji9)).toNat * 6)).off + 2, none⟩ = some (.string ((rd_T55 x0_2 (ji9)).f0.f2)) ∧ w'.cell? ⟨(ad121.add (((ji9)).toNat * 6)).block, (ad121.add (((ji9)).toNat * 6)).off + 3, none⟩ = some (.string ((rd_T55 x0_2 (ji9)).f0.f3)) ∧ w'.cell? ⟨(ad121.add (((ji9)).toNat * 6)).block, (ad121.add (((ji9)).toNat * 6)).off + 4, none⟩ = some (.int .i64 ((rd_T55 x0_2 (ji9)).f0.f4)) ∧ w'.cell? ⟨(ad121.add (((ji9)).toNat * 6)).block, (ad121.add (((ji9)).toNat * 6)).off + 5, none⟩ = some (.int .i64 ((rd_T55 x0_2 (ji9)).f1))) (ds := []) (fl 17 0) (by kernel_rfl) rfl rfl ⟨hx121_0, hx121_1, hx121_2, hx121_3, hx121_4, hx121_5, hx122_0, hx122_1, hx122_2, hx122_3, hx122_4, hx122_5⟩ (fun hHeld => ?_); refine with_tabW fact_Fact_47.tab4 fact_Fact_47.bits4 (fun HT_ HW_ => ?_)
            generalize wr.drew = w22 at HO_0 HK HB hx121_0 hx121_1 hx121_2 hx121_3 hx121_4 hx121_5 hx122_0 hx122_1 hx122_2 hx122_3 hx122_4 hx122_5 hHeld ⊢
            refine pu 0 (some 18) (fl 17 1) HT_ ?_
            refine pu 1 (some 19) (fl 17 3) HT_ ?_
            refine pu 2 (some 20) (fl 17 7) HT_ ?_
            refine pu 3 (some 21) (fl 17 15) HT_ ?_
            refine pu 4 (some 22) (fl 17 31) HT_ ?_
            refine pu 5 (some 23) (fl 17 63) HT_ ?_
            refine pu 6 (some 24) (fl 17 127) HT_ ?_
            refine pu 7 (some 25) (fl 17 255) HT_ ?_
            refine pu 9 (some 27) (fl 17 767) HT_ ?_
            refine pu 10 (some 28) (fl 17 1791) HT_ ?_
            refine pu 11 (some 29) (fl 17 3839) HT_ ?_
            refine pu 12 (some 30) (fl 17 7935) HT_ ?_
            refine tu 8 (some 26) (fl 17 8191) HT_ HW_ hHeld ?_
            refine tu 13 (some 31) (fl 17 16383) HT_ HW_ hHeld ?_
            refine one_ (i := 14) (N := some 32) (fl 17 32767) rfl rfl (one_of HT_.out (by kernel_rfl)) (by decide) (fun K hK => ?_)
            refine goesV_ Try.func34 (by kernel_rfl) rfl #[.agg #[.string ((rd_T55 x0_2 x9_2).f0.f0), .string ((rd_T55 x0_2 x9_2).f0.f1), .string ((rd_T55 x0_2 x9_2).f0.f2), .string ((rd_T55 x0_2 x9_2).f0.f3), .int .i64 ((rd_T55 x0_2 x9_2).f0.f4), .int .i64 ((rd_T55 x0_2 x9_2).f1)], .agg #[.string ((rd_T55 x0_2 (ji9)).f0.f0), .string ((rd_T55 x0_2 (ji9)).f0.f1), .string ((rd_T55 x0_2 (ji9)).f0.f2), .string ((rd_T55 x0_2 (ji9)).f0.f3), .int .i64 ((rd_T55 x0_2 (ji9)).f0.f4), .int .i64 ((rd_T55 x0_2 (ji9)).f1)]] (by rfl) rfl rfl rfl (by (try simp only [List.map_toArray, List.map_cons, List.map_nil]); first | done | (simp only [hji9]; rfl) | rfl | (simp only [List.length_drop, List.length_take]; rfl)) ?_
            with_reducible refine (fact_Of_1.calls k2 ((rd_T55 x0_2 x9_2).f0.f0) ((rd_T55 x0_2 x9_2).f0.f1) ((rd_T55 x0_2 x9_2).f0.f2) ((rd_T55 x0_2 x9_2).f0.f3) ((rd_T55 x0_2 x9_2).f0.f4) ((rd_T55 x0_2 x9_2).f1) ((rd_T55 x0_2 (ji9)).f0.f0) ((rd_T55 x0_2 (ji9)).f0.f1) ((rd_T55 x0_2 (ji9)).f0.f2) ((rd_T55 x0_2 (ji9)).f0.f3) ((rd_T55 x0_2 (ji9)).f0.f4) ((rd_T55 x0_2 (ji9)).f1) t123 _ A12.out).mono ?_
            rintro e w24 ⟨rfl, hb⟩
            have HS0_ := cb2 hb hHeld.1
            have HS1_ := cb2 hb hHeld.2.1
            have HS2_ := cb2 hb hHeld.2.2.1
            have HS3_ := cb2 hb hHeld.2.2.2.1
            have HS4_ := cb2 hb hHeld.2.2.2.2.1
            have HS5_ := cb2 hb hHeld.2.2.2.2.2.1
            have HS6_ := cb2 hb hHeld.2.2.2.2.2.2.1
            have HS7_ := cb2 hb hHeld.2.2.2.2.2.2.2.1
            have HS8_ := cb2 hb hHeld.2.2.2.2.2.2.2.2.1
            have HS9_ := cb2 hb hHeld.2.2.2.2.2.2.2.2.2.1
            have HS10_ := cb2 hb hHeld.2.2.2.2.2.2.2.2.2.2.1
            have HS11_ := cb2 hb hHeld.2.2.2.2.2.2.2.2.2.2.2
            refine ⟨_, rfl, ?_⟩
            have n0_ := Aside0.mk (Kd.R_below (kr HO_0) hb)
            have n1_ := Aside0.mk (Kept.below (S := (fun k_ => P0_ k_)) kp_ hb)
            have n2_ := Aside0.mk (below_step bw hb)
            clear HO_0 HK HB; have HO_0 := n0_; have HK := n1_; have HB := n2_; clear n0_ n1_ n2_
            (try clear hb)
            (try clear hb2)
            (try clear hk)
            (try clear hi)
            refine hK.out _ _ ⟨HS0_, HS1_, HS2_, HS3_, HS4_, HS5_, HS6_, HS7_, HS8_, HS9_, HS10_, HS11_⟩ (fun hHeld => ?_)
            clear hK K
            refine norm_ (a' := ?_) ?_ ?_
            rotate_left
            ·show Act.put _ (some 32) _ = _
             simp only [Act.put, List.setIfInBounds_toArray, List.set_cons_zero, List.set_cons_succ, i64_w, i32_w]
             rfl
            refine pu 15 (some 33) (fl 17 65535) HT_ ?_
            refine pu 16 (some 34) (fl 17 131071) HT_ ?_
            refine done_ (done_of HT_.out (by kernel_rfl)) ?_
            try go_wp2
            go_roundg k2
            case measure => have := HK1.out; have := HK2.out; omega
            case rel => exact ⟨(x0_2), (wrap64 (x8_1 + 1)), rs_, H', ⟨by have := HK1.out; have := HK2.out; omega⟩, ⟨kr HO_0⟩, ⟨kp_⟩, ⟨bw⟩⟩
          ·rw [if_neg c11] at H
           exact absurd H (by simp)
         ·rw [if_neg c10] at H
          exact absurd H (by simp)
        ·rw [if_neg c8] at H
         exact absurd H (by simp)
       ·rw [if_neg c7] at H
        exact absurd H (by simp)
      ·rw [if_neg c6] at H
       have c6b0 : decide (a1 < x9_2) = false := decide_eq_false c6
       clear c6
       have H' := Aside0.mk H
       clear H
       try go_wp2
       have n0_ := Aside0.mk (Kd.R_drew HO_0.out)
       have n1_ := Aside0.mk (Kept.drew HK.out)
       have n2_ := Aside0.mk (below_drew1 HB.out)
       clear HO_0 HK HB; have HO_0 := n0_; have HK := n1_; have HB := n2_; clear n0_ n1_ n2_
       refine start_ (n := 17) (S := fun w' => True) (ds := []) (fl 17 0) (by kernel_rfl) rfl rfl trivial (fun hHeld => ?_); refine with_tabW fact_Fact_47.tab4 fact_Fact_47.bits4 (fun HT_ HW_ => ?_)
       generalize wr.drew = w25 at HO_0 HK HB hHeld ⊢
       refine pu 0 (some 18) (fl 17 1) HT_ ?_
       refine pu 1 (some 19) (fl 17 3) HT_ ?_
       refine pu 2 (some 20) (fl 17 7) HT_ ?_
       refine pu 3 (some 21) (fl 17 15) HT_ ?_
       refine pure_ (i := 4) (N := some 22) (v := undef) (a' := ?_) (fl 17 31) rfl rfl (any_of HT_.out (by kernel_rfl)) (fun _ _ _ h => h) (Or.inr ⟨by rfl, rfl⟩) ?_ ?_
       rotate_left
       ·simp only [Act.put, List.setIfInBounds_toArray, List.set_cons_zero, List.set_cons_succ, i64_w, i32_w]
        rfl
       refine pure_ (i := 5) (N := some 23) (v := undef) (a' := ?_) (fl 17 63) rfl rfl (any_of HT_.out (by kernel_rfl)) (fun _ _ _ h => h) (Or.inr ⟨by rfl, rfl⟩) ?_ ?_
       rotate_left
       ·simp only [Act.put, List.setIfInBounds_toArray, List.set_cons_zero, List.set_cons_succ, i64_w, i32_w]
        rfl
       refine pure_ (i := 6) (N := some 24) (v := undef) (a' := ?_) (fl 17 127) rfl rfl (any_of HT_.out (by kernel_rfl)) (fun _ _ _ h => h) (Or.inr ⟨by rfl, rfl⟩) ?_ ?_
       rotate_left
       ·simp only [Act.put, List.setIfInBounds_toArray, List.set_cons_zero, List.set_cons_succ, i64_w, i32_w]
        rfl
       refine pure_ (i := 7) (N := some 25) (v := undef) (a' := ?_) (fl 17 255) rfl rfl (any_of HT_.out (by kernel_rfl)) (fun _ _ _ h => h) (Or.inr ⟨by rfl, rfl⟩) ?_ ?_
       rotate_left
       ·simp only [Act.put, List.setIfInBounds_toArray, List.set_cons_zero, List.set_cons_succ, i64_w, i32_w]
        rfl
       refine pure_ (i := 8) (N := some 26) (v := undef) (a' := ?_) (fl 17 511) rfl rfl (any_of HT_.out (by kernel_rfl)) (fun _ _ _ h => h) (Or.inr ⟨by rfl, rfl⟩) ?_ ?_
       rotate_left
       ·simp only [Act.put, List.setIfInBounds_toArray, List.set_cons_zero, List.set_cons_succ, i64_w, i32_w]
        rfl
       refine pure_ (i := 9) (N := some 27) (v := undef) (a' := ?_) (fl 17 1023) rfl rfl (any_of HT_.out (by kernel_rfl)) (fun _ _ _ h => h) (Or.inr ⟨by rfl, rfl⟩) ?_ ?_
       rotate_left
       ·simp only [Act.put, List.setIfInBounds_toArray, List.set_cons_zero, List.set_cons_succ, i64_w, i32_w]
        rfl
       refine pure_ (i := 10) (N := some 28) (v := undef) (a' := ?_) (fl 17 2047) rfl rfl (any_of HT_.out (by kernel_rfl)) (fun _ _ _ h => h) (Or.inr ⟨by rfl, rfl⟩) ?_ ?_
       rotate_left
       ·simp only [Act.put, List.setIfInBounds_toArray, List.set_cons_zero, List.set_cons_succ, i64_w, i32_w]
        rfl
       refine pure_ (i := 11) (N := some 29) (v := undef) (a' := ?_) (fl 17 4095) rfl rfl (any_of HT_.out (by kernel_rfl)) (fun _ _ _ h => h) (Or.inr ⟨by rfl, rfl⟩) ?_ ?_
       rotate_left
       ·simp only [Act.put, List.setIfInBounds_toArray, List.set_cons_zero, List.set_cons_succ, i64_w, i32_w]
        rfl
       refine pure_ (i := 12) (N := some 30) (v := undef) (a' := ?_) (fl 17 8191) rfl rfl (any_of HT_.out (by kernel_rfl)) (fun _ _ _ h => h) (Or.inr ⟨by rfl, rfl⟩) ?_ ?_
       rotate_left
       ·simp only [Act.put, List.setIfInBounds_toArray, List.set_cons_zero, List.set_cons_succ, i64_w, i32_w]
        rfl
       refine pure_ (i := 13) (N := some 31) (v := undef) (a' := ?_) (fl 17 16383) rfl rfl (any_of HT_.out (by kernel_rfl)) (fun _ _ _ h => h) (Or.inr ⟨by rfl, rfl⟩) ?_ ?_
       rotate_left
       ·simp only [Act.put, List.setIfInBounds_toArray, List.set_cons_zero, List.set_cons_succ, i64_w, i32_w]
        rfl
       refine pure_ (i := 14) (N := some 32) (v := undef) (a' := ?_) (fl 17 32767) rfl rfl (any_of HT_.out (by kernel_rfl)) (fun _ _ _ h => h) (Or.inr ⟨by rfl, rfl⟩) ?_ ?_
       rotate_left
       ·simp only [Act.put, List.setIfInBounds_toArray, List.set_cons_zero, List.set_cons_succ, i64_w, i32_w]
        rfl
       refine pure_ (i := 15) (N := some 33) (v := undef) (a' := ?_) (fl 17 65535) rfl rfl (any_of HT_.out (by kernel_rfl)) (fun _ _ _ h => h) (Or.inr ⟨by rfl, rfl⟩) ?_ ?_
       rotate_left
       ·simp only [Act.put, List.setIfInBounds_toArray, List.set_cons_zero, List.set_cons_succ, i64_w, i32_w]
        rfl
       refine pu 16 (some 34) (fl 17 131071) HT_ ?_
       refine done_ (done_of HT_.out (by kernel_rfl)) ?_
       try go_wp2
       go_roundg k2
       case measure => have := HK1.out; have := HK2.out; omega
       case rel => exact ⟨(x0_2), (wrap64 (x8_1 + 1)), rs_, H', ⟨by have := HK1.out; have := HK2.out; omega⟩, ⟨kr HO_0⟩, ⟨kp_⟩, ⟨bw⟩⟩
   ·rw [if_neg c5] at H
    have c5b0 : decide (x8_1 < a2) = false := decide_eq_false c5
    clear c5
    obtain rfl := Option.some.inj H
    go_wp2
    first | go_end0 | ((try simp only [Exit.inBlock, Exit.then]); refine bodyPost_ret (results_none rfl _ _ _) rfl ?_)
    exact ⟨re_, kr HO_0, by repeat (first | (with_reducible first | exact HB.out | apply below_alloc | apply pw_below_drewN | apply below_drew1) | exact HB.out), kp_⟩

end Go.Proofs.Ytdckeflggcefbaa.Y
