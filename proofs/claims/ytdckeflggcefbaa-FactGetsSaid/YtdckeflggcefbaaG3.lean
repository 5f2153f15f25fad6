/- Plain Lean functions with the answers of the program's functions, and proofs that the machine's calls come to them; lines written by a program for this claim. No conditions. -/
import Derived.Test.YtdckeflggcefbaaG1
namespace Go.Proofs.Ytdckeflggcefbaa.Y
open Go.RowKit Go.Proofs.YtdckeflggcefbaaW.PrintWords Go.Proofs.YtdckeflggcefbaaW.PrintLast Go.Proofs.YtdckeflggcefbaaW.PrintMore
attribute [local go_sem] max2_int min2_int max_two min_two max_three min_three max_four min_four
set_option linter.unusedVariables false
set_option linter.unusedSimpArgs false

/-! ### fact_Fact_51: function 51 -/
def fact_Fact_51.l0 : Nat → List (S55) → Int → Int → Int → Int → Option ((List (S55)))
 | 0, _, _, _, _, _ => none
 | k + 1, x0, x1, x2, x3, x10 => if x10 < x3 then (if 0 ≤ (wrap64 (x2 + x10)) then (if (wrap64 (x2 + x10)) < (x0.length : Int) then (if 0 ≤ (wrap64 (x1 + x10)) then (if (wrap64 (x1 + x10)) < (x0.length : Int) then (fact_Fact_51.l0 k ((x0.set ((wrap64 (x1 + x10)) : Int).toNat (⟨(⟨(rd_T55 x0 (wrap64 (x2 + x10))).f0.f0, (rd_T55 x0 (wrap64 (x2 + x10))).f0.f1, (rd_T55 x0 (wrap64 (x2 + x10))).f0.f2, (rd_T55 x0 (wrap64 (x2 + x10))).f0.f3, (rd_T55 x0 (wrap64 (x2 + x10))).f0.f4⟩ : S44), (rd_T55 x0 (wrap64 (x2 + x10))).f1⟩ : S55)).set ((wrap64 (x2 + x10)) : Int).toNat (⟨(⟨(rd_T55 x0 (wrap64 (x1 + x10))).f0.f0, (rd_T55 x0 (wrap64 (x1 + x10))).f0.f1, (rd_T55 x0 (wrap64 (x1 + x10))).f0.f2, (rd_T55 x0 (wrap64 (x1 + x10))).f0.f3, (rd_T55 x0 (wrap64 (x1 + x10))).f0.f4⟩ : S44), (rd_T55 x0 (wrap64 (x1 + x10))).f1⟩ : S55)) x1 x2 x3 (wrap64 (x10 + 1))) else (none)) else (none)) else (none)) else (none)) else (some x0)
def fact_Fact_51.f (k : Nat) (l0 : List (S55)) (a1 : Int) (a2 : Int) (a3 : Int)  : Option ((List (S55))) := fact_Fact_51.l0 k l0 a1 a2 a3 0
theorem fact_Fact_51.mono_l : ∀ k, (∀ y0 y1 y2 y3 y4, LeO (fact_Fact_51.l0 k y0 y1 y2 y3 y4) (fact_Fact_51.l0 (k + 1) y0 y1 y2 y3 y4))
 | 0 => fun _ _ _ _ _ r h => by simp [fact_Fact_51.l0] at h
 | k + 1 => by
  have ih0 := fact_Fact_51.mono_l k
  ·intro y0 y1 y2 y3 y4
   unfold fact_Fact_51.l0
   with_reducible repeat' first | apply ih0 | refine LeO.refl _ | refine LeO.none _ | refine LeO.ite ?_ ?_ | refine LeO.bind ?_ (fun _ => ?_)
theorem fact_Fact_51.mono : ∀ a0 a1 a2 a3 k, LeO (fact_Fact_51.f k a0 a1 a2 a3) (fact_Fact_51.f (k + 1) a0 a1 a2 a3) := by
 intro a0 a1 a2 a3 k
 have ih0 := fact_Fact_51.mono_l k
 unfold fact_Fact_51.f
 with_reducible repeat' first | apply ih0 | refine LeO.refl _ | refine LeO.none _ | refine LeO.ite ?_ ?_ | refine LeO.bind ?_ (fun _ => ?_)
def fact_Fact_51.T3 : Bool × List (List Nat × List Nat) := (true, [([], []), ([], []), ([], []), ([1, 2], [1, 2]), ([], []), ([], []), ([], []), ([5, 6], [5, 6]), ([], []), ([], []), ([], []), ([9, 10], [9, 10]), ([8, 11], [8, 11]), ([12], [12]), ([], []), ([], []), ([], []), ([15, 16], [15, 16]), ([14, 17], [14, 17]), ([18], [18]), ([0, 3, 0, 1, 2, 3, 8, 9, 10, 11, 12, 13, 19], [0, 3]), ([20, 13, 0, 1, 2, 3, 8, 9, 10, 11, 12, 13, 19], [13, 20]), ([4, 7, 0, 1, 2, 3, 4, 5, 6, 7, 8, 9, 10, 11, 12, 13, 14, 15, 16, 17, 18, 19, 20, 21], [4, 7]), ([22, 19, 21, 0, 1, 2, 3, 4, 5, 6, 7, 8, 9, 10, 11, 12, 13, 14, 15, 16, 17, 18, 19, 20, 21], [19, 22])])
def fact_Fact_51.B3 : List Nat := [0, 0, 0, 6, 0, 0, 0, 96, 0, 0, 0, 1536, 3840, 7936, 0, 0, 0, 98304, 245760, 507904, 1048335, 2096911, 4194303, 8388607]
theorem fact_Fact_51.tab3 : rtab .any (opsOf Try.f51 3) = fact_Fact_51.T3 := by kernel_rfl
theorem fact_Fact_51.bits3 : waitsOk fact_Fact_51.T3.2 fact_Fact_51.B3 = true := by kernel_rfl
set_option maxHeartbeats 8000000 in
set_option maxRecDepth 100000 in
theorem fact_Fact_51.calls (k : Nat) (P0_ : Nat → Prop) (u9000_ : Value) (l0 : List (S55)) (a1 : Int) (a2 : Int) (a3 : Int)  (r : List (S55)) (w0 w : World) (hB : Below w0.heap.size w0 w) (ho0 : Kd.R k55 55 w w0.heap.size P0_ u9000_ l0) (h : fact_Fact_51.f k l0 a1 a2 a3 = some r) :
  Calls Try.prog 51 #[u9000_, .int .i64 a1, .int .i64 a2, .int .i64 a3, .func (.func 34) #[] #[]] w fun e w' => e = .returned (.tuple #[]) ∧ Kd.R k55 55 w' w0.heap.size (fun k_ => (P0_ k_ ∨ w.heap.size ≤ k_)) u9000_ r ∧ Below w0.heap.size w0 w' ∧ Kept w w' (fun k_ => P0_ k_) := by
 have hu55 := Try.underlying55
 have HO0 := Aside0.mk (show Kd.R k55 55 w w0.heap.size (fun k_ => (P0_ k_ ∨ w.heap.size ≤ k_)) u9000_ l0 from Kd.R_mono ho0 (fun k_ hk => (.inl hk)))
 have HK := Aside0.mk (Kept.refl w (fun k_ => P0_ k_))
 have HW0 := Aside0.mk hB.size
 have HB := Aside0.mk hB; clear hB
 have H : (fact_Fact_51.l0 k l0 a1 a2 a3 0) = some r := h
 clear h
 have H' := Aside0.mk H
 clear H
 go_enter Try.func51, Try.ntmps51
 go_wp2
 go_loopg [10] k (fun kq v10 w' => ∃ (x0_1 : List (S55)) (x10_1 : Int), v10 = .int .i64 x10_1 ∧ Aside0 (fact_Fact_51.l0 kq x0_1 a1 a2 a3 x10_1 = some r) ∧ Aside0 (kq ≤ k) ∧ Aside0 (Kd.R k55 55 w' w0.heap.size (fun k_ => (P0_ k_ ∨ w.heap.size ≤ k_)) u9000_ x0_1) ∧ Aside0 (Kept w w' (fun k_ => P0_ k_)) ∧ Aside0 (Below w0.heap.size w0 w'))
 case atStart => exact ⟨(l0), (0), rs_, H', ⟨Nat.le_refl _⟩, ⟨kr HO0⟩, ⟨kp_⟩, ⟨bw⟩⟩
 case round =>
  clear H'
  (try clear p2); (try clear c5)
  obtain ⟨x0_1, x10_1, rfl, HA, HK1, HO_0, HK, HB⟩ := hrel
  cases gk with
  | zero => exact absurd HA.out (by simp [fact_Fact_51.l0])
  | succ k1 =>
   have H := HA.out; clear HA
   simp only [fact_Fact_51.l0] at H
   by_cases c6 : x10_1 < a3
   ·rw [if_pos c6] at H
    have c6b0 : decide (x10_1 < a3) = true := decide_eq_true c6
    clear c6
    obtain ⟨ji7, hji7⟩ : ∃ j_ : Int, (wrap64 (a2 + x10_1)) = j_ := ⟨_, rfl⟩
    replace H : (if 0 ≤ (ji7) then (if (ji7) < (x0_1.length : Int) then (if 0 ≤ (wrap64 (a1 + x10_1)) then (if (wrap64 (a1 + x10_1)) < (x0_1.length : Int) then (fact_Fact_51.l0 k1 ((x0_1.set ((wrap64 (a1 + x10_1)) : Int).toNat (⟨(⟨(rd_T55 x0_1 (ji7)).f0.f0, (rd_T55 x0_1 (ji7)).f0.f1, (rd_T55 x0_1 (ji7)).f0.f2, (rd_T55 x0_1 (ji7)).f0.f3, (rd_T55 x0_1 (ji7)).f0.f4⟩ : S44), (rd_T55 x0_1 (ji7)).f1⟩ : S55)).set ((ji7) : Int).toNat (⟨(⟨(rd_T55 x0_1 (wrap64 (a1 + x10_1))).f0.f0, (rd_T55 x0_1 (wrap64 (a1 + x10_1))).f0.f1, (rd_T55 x0_1 (wrap64 (a1 + x10_1))).f0.f2, (rd_T55 x0_1 (wrap64 (a1 + x10_1))).f0.f3, (rd_T55 x0_1 (wrap64 (a1 + x10_1))).f0.f4⟩ : S44), (rd_T55 x0_1 (wrap64 (a1 + x10_1))).f1⟩ : S55)) a1 a2 a3 (wrap64 (x10_1 + 1))) else (none)) else (none)) else (none)) else (none)) = some r := by first | (rw [hji7] at H; exact H) | (simp only [hji7] at H ⊢; exact H)
    have hji7w : (IntKind.i64.wrap (a2 + x10_1)) = ji7 := (i64_w _).trans hji7
    by_cases c8 : 0 ≤ (ji7)
    ·rw [if_pos c8] at H
     have c8b0 : decide (0 ≤ (ji7)) = true := decide_eq_true c8
     clear c8
     by_cases c9 : (ji7) < (x0_1.length : Int)
     ·rw [if_pos c9] at H
      have c9b0 : decide ((ji7) < (x0_1.length : Int)) = true := decide_eq_true c9
      clear c9
      obtain ⟨ji10, hji10⟩ : ∃ j_ : Int, (wrap64 (a1 + x10_1)) = j_ := ⟨_, rfl⟩
      replace H : (if 0 ≤ (ji10) then (if (ji10) < (x0_1.length : Int) then (fact_Fact_51.l0 k1 ((x0_1.set ((ji10) : Int).toNat (⟨(⟨(rd_T55 x0_1 (ji7)).f0.f0, (rd_T55 x0_1 (ji7)).f0.f1, (rd_T55 x0_1 (ji7)).f0.f2, (rd_T55 x0_1 (ji7)).f0.f3, (rd_T55 x0_1 (ji7)).f0.f4⟩ : S44), (rd_T55 x0_1 (ji7)).f1⟩ : S55)).set ((ji7) : Int).toNat (⟨(⟨(rd_T55 x0_1 (ji10)).f0.f0, (rd_T55 x0_1 (ji10)).f0.f1, (rd_T55 x0_1 (ji10)).f0.f2, (rd_T55 x0_1 (ji10)).f0.f3, (rd_T55 x0_1 (ji10)).f0.f4⟩ : S44), (rd_T55 x0_1 (ji10)).f1⟩ : S55)) a1 a2 a3 (wrap64 (x10_1 + 1))) else (none)) else (none)) = some r := by first | (rw [hji10] at H; exact H) | (simp only [hji10] at H ⊢; exact H)
      have hji10w : (IntKind.i64.wrap (a1 + x10_1)) = ji10 := (i64_w _).trans hji10
      by_cases c11 : 0 ≤ (ji10)
      ·rw [if_pos c11] at H
       have c11b0 : decide (0 ≤ (ji10)) = true := decide_eq_true c11
       clear c11
       by_cases c12 : (ji10) < (x0_1.length : Int)
       ·rw [if_pos c12] at H
        have c12b0 : decide ((ji10) < (x0_1.length : Int)) = true := decide_eq_true c12
        clear c12
        obtain ⟨y130, hy130⟩ : ∃ y_ : List (S55), y_ = (x0_1.set ((ji10) : Int).toNat (⟨(⟨(rd_T55 x0_1 (ji7)).f0.f0, (rd_T55 x0_1 (ji7)).f0.f1, (rd_T55 x0_1 (ji7)).f0.f2, (rd_T55 x0_1 (ji7)).f0.f3, (rd_T55 x0_1 (ji7)).f0.f4⟩ : S44), (rd_T55 x0_1 (ji7)).f1⟩ : S55)) := ⟨_, rfl⟩
        replace H : (fact_Fact_51.l0 k1 (y130.set ((ji7) : Int).toNat (⟨(⟨(rd_T55 x0_1 (ji10)).f0.f0, (rd_T55 x0_1 (ji10)).f0.f1, (rd_T55 x0_1 (ji10)).f0.f2, (rd_T55 x0_1 (ji10)).f0.f3, (rd_T55 x0_1 (ji10)).f0.f4⟩ : S44), (rd_T55 x0_1 (ji10)).f1⟩ : S55)) a1 a2 a3 (wrap64 (x10_1 + 1))) = some r := rh hy130 H
        have Ny130 := Aside0.mk hy130; clear hy130
        obtain ⟨y131, hy131⟩ : ∃ y_ : List (S55), y_ = (y130.set ((ji7) : Int).toNat (⟨(⟨(rd_T55 x0_1 (ji10)).f0.f0, (rd_T55 x0_1 (ji10)).f0.f1, (rd_T55 x0_1 (ji10)).f0.f2, (rd_T55 x0_1 (ji10)).f0.f3, (rd_T55 x0_1 (ji10)).f0.f4⟩ : S44), (rd_T55 x0_1 (ji10)).f1⟩ : S55)) := ⟨_, rfl⟩
        replace H : (fact_Fact_51.l0 k1 y131 a1 a2 a3 (wrap64 (x10_1 + 1))) = some r := rh hy131 H
        have Ny131 := Aside0.mk hy131; clear hy131
        have H' := Aside0.mk H
        clear H
        try go_wp2
        have n0_ := Aside0.mk (Kd.R_drew HO_0.out)
        have n1_ := Aside0.mk (Kept.drew HK.out)
        have n2_ := Aside0.mk (below_drew1 HB.out)
        clear HO_0 HK HB; have HO_0 := n0_; have HK := n1_; have HB := n2_; clear n0_ n1_ n2_
        obtain ⟨Ao16, co16, eo16⟩ := Kd.R_slice HO_0.out
        (first | subst eo16 | (injection eo16 with f1_ f2_ f3_; have f4_ := f1_.symm; have f5_ := f3_.symm; clear f1_ f2_ f3_; subst f4_; subst f5_))
        have p128 : 0 ≤ ((ji7) : Int) := of_decide_eq_true as_
        have q128 : (ji7) < (x0_1.length : Int) := of_decide_eq_true as_
        obtain ⟨ad128, e128, hx128_0, hx128_1, hx128_2, hx128_3, hx128_4, hx128_5⟩ := at_T55 (Kd.R_reads' HO_0.out).2.2 (ji7) p128 q128
        cases e128; replace p128 := eq_true p128; replace q128 := eq_true q128
        have p129 : 0 ≤ ((ji10) : Int) := of_decide_eq_true as_
        have q129 : (ji10) < (x0_1.length : Int) := of_decide_eq_true as_
        obtain ⟨ad129, e129, hx129_0, hx129_1, hx129_2, hx129_3, hx129_4, hx129_5⟩ := at_T55 (Kd.R_reads' HO_0.out).2.2 (ji10) p129 q129
        obtain rfl : ad128 = ad129 := (by injection e129)
        replace p129 := eq_true p129; replace q129 := eq_true q129
        have p13 : 0 ≤ ((ji10) : Int) := of_decide_eq_true as_
        have q13 : ((ji10) : Int) < ((x0_1.length : Int) : Int) := of_decide_eq_true as_
        obtain ⟨go13, co13, eo13, gb13, gl13, cl13, HG13⟩ := Kd.R_form HO_0.out (by omega)
        (first | cases eo13 | (injection eo13 with ea_ en_ ec_; (first | subst ea_ | (injection ea_ with ea_; subst ea_)); subst ec_; clear en_))
        have GB13 := Aside0.mk gb13; have GG13 := Aside0.mk HG13; clear gb13 gl13 HG13
        have HMgo13 := Aside0.mk (show (P0_ go13 ∨ w.heap.size ≤ go13) from (HO_0.out.1 _ rfl))
        (first | simp only [add_plain] at hx128_0 | skip)
        (first | simp only [add_plain] at hx128_1 | skip)
        (first | simp only [add_plain] at hx128_2 | skip)
        (first | simp only [add_plain] at hx128_3 | skip)
        (first | simp only [add_plain] at hx128_4 | skip)
        (first | simp only [add_plain] at hx128_5 | skip)
        (first | simp only [add_plain] at hx129_0 | skip)
        (first | simp only [add_plain] at hx129_1 | skip)
        (first | simp only [add_plain] at hx129_2 | skip)
        (first | simp only [add_plain] at hx129_3 | skip)
        (first | simp only [add_plain] at hx129_4 | skip)
        (first | simp only [add_plain] at hx129_5 | skip)
        obtain ⟨ce13, hcl13, hM13, hcc13, hfr13⟩ := Kd.R_elem HO_0.out z55 ((ji10) : Int) p13 q13
        obtain rfl := k55_openM hM13
        have hx13_0 : World.cell? _ ⟨go13, ((ji10) : Int).toNat * 6, none⟩ = some (.string ((rd_T55 x0_1 (ji10)).f0.f0)) := hcc13 0 _ rfl
        have hx13_1 : World.cell? _ ⟨go13, ((ji10) : Int).toNat * 6 + 1, none⟩ = some (.string ((rd_T55 x0_1 (ji10)).f0.f1)) := hcc13 1 _ rfl
        have hx13_2 : World.cell? _ ⟨go13, ((ji10) : Int).toNat * 6 + 2, none⟩ = some (.string ((rd_T55 x0_1 (ji10)).f0.f2)) := hcc13 2 _ rfl
        have hx13_3 : World.cell? _ ⟨go13, ((ji10) : Int).toNat * 6 + 3, none⟩ = some (.string ((rd_T55 x0_1 (ji10)).f0.f3)) := hcc13 3 _ rfl
        have hx13_4 : World.cell? _ ⟨go13, ((ji10) : Int).toNat * 6 + 4, none⟩ = some (.int .i64 ((rd_T55 x0_1 (ji10)).f0.f4)) := hcc13 4 _ rfl
        have hx13_5 : World.cell? _ ⟨go13, ((ji10) : Int).toNat * 6 + 5, none⟩ = some (.int .i64 ((rd_T55 x0_1 (ji10)).f1)) := hcc13 5 _ rfl
        have hf13_0 : World.frozen? _ ⟨go13, ((ji10) : Int).toNat * 6, none⟩ = false := hfr13 0
        have hf13_1 : World.frozen? _ ⟨go13, ((ji10) : Int).toNat * 6 + 1, none⟩ = false := hfr13 1
        have hf13_2 : World.frozen? _ ⟨go13, ((ji10) : Int).toNat * 6 + 2, none⟩ = false := hfr13 2
        have hf13_3 : World.frozen? _ ⟨go13, ((ji10) : Int).toNat * 6 + 3, none⟩ = false := hfr13 3
        have hf13_4 : World.frozen? _ ⟨go13, ((ji10) : Int).toNat * 6 + 4, none⟩ = false := hfr13 4
        have hf13_5 : World.frozen? _ ⟨go13, ((ji10) : Int).toNat * 6 + 5, none⟩ = false := hfr13 5
        clear hcl13 hcc13 hfr13 hM13; replace p13 := eq_true p13; replace q13 := eq_true q13
        obtain ⟨ce17, hcl17, hM17, hcc17, hfr17⟩ := Kd.R_elem HO_0.out z55 ((ji10) : Int) (of_decide_eq_true as_) (by have h_ : ((ji10) : Int) < ((x0_1.length : Int) : Int) := of_decide_eq_true as_; first | exact h_ | (have e_ := (Kd.R_reads' HO_0.out).1; omega) | simpa using h_)
        obtain rfl := k55_openM hM17
        have HP17 := (Kd.R_seg HO_0.out ((ji10) : Int) (of_decide_eq_true as_) (by have h_ : ((ji10) : Int) < ((x0_1.length : Int) : Int) := of_decide_eq_true as_; first | exact h_ | (have e_ := (Kd.R_reads' HO_0.out).1; omega) | simpa using h_) (seg := [.string ((rd_T55 x0_1 (ji7)).f0.f0), .string ((rd_T55 x0_1 (ji7)).f0.f1), .string ((rd_T55 x0_1 (ji7)).f0.f2), .string ((rd_T55 x0_1 (ji7)).f0.f3), .int .i64 ((rd_T55 x0_1 (ji7)).f0.f4), .int .i64 ((rd_T55 x0_1 (ji7)).f1)]) (j := 0) hcl17 hcc17 (show 6 ≤ 6 from by decide) (x' := (⟨(⟨(rd_T55 x0_1 (ji7)).f0.f0, (rd_T55 x0_1 (ji7)).f0.f1, (rd_T55 x0_1 (ji7)).f0.f2, (rd_T55 x0_1 (ji7)).f0.f3, (rd_T55 x0_1 (ji7)).f0.f4⟩ : S44), (rd_T55 x0_1 (ji7)).f1⟩ : S55)) (k55_mkM _ _ _ (⟨(⟨(rd_T55 x0_1 (ji7)).f0.f0, (rd_T55 x0_1 (ji7)).f0.f1, (rd_T55 x0_1 (ji7)).f0.f2, (rd_T55 x0_1 (ji7)).f0.f3, (rd_T55 x0_1 (ji7)).f0.f4⟩ : S44), (rd_T55 x0_1 (ji7)).f1⟩ : S55) ) (fun _ hk => hk)).1
        rw [← Ny130.out] at HP17
        have HQ17 := Aside0.mk HP17; clear hcl17 hcc17 hfr17 hM17 HP17
        have p14 : 0 ≤ ((ji7) : Int) := of_decide_eq_true as_
        have q14 : ((ji7) : Int) < ((x0_1.length : Int) : Int) := of_decide_eq_true as_
        obtain ⟨ce14, hcl14, hM14, hcc14, hfr14⟩ := Kd.R_elem HQ17.out z55 ((ji7) : Int) p14 q14
        obtain rfl := k55_openM hM14
        have hx14_0 : World.cell? _ ⟨go13, ((ji7) : Int).toNat * 6, none⟩ = some (.string ((rd_T55 y130 (ji7)).f0.f0)) := hcc14 0 _ rfl
        have hx14_1 : World.cell? _ ⟨go13, ((ji7) : Int).toNat * 6 + 1, none⟩ = some (.string ((rd_T55 y130 (ji7)).f0.f1)) := hcc14 1 _ rfl
        have hx14_2 : World.cell? _ ⟨go13, ((ji7) : Int).toNat * 6 + 2, none⟩ = some (.string ((rd_T55 y130 (ji7)).f0.f2)) := hcc14 2 _ rfl
        have hx14_3 : World.cell? _ ⟨go13, ((ji7) : Int).toNat * 6 + 3, none⟩ = some (.string ((rd_T55 y130 (ji7)).f0.f3)) := hcc14 3 _ rfl
        have hx14_4 : World.cell? _ ⟨go13, ((ji7) : Int).toNat * 6 + 4, none⟩ = some (.int .i64 ((rd_T55 y130 (ji7)).f0.f4)) := hcc14 4 _ rfl
        have hx14_5 : World.cell? _ ⟨go13, ((ji7) : Int).toNat * 6 + 5, none⟩ = some (.int .i64 ((rd_T55 y130 (ji7)).f1)) := hcc14 5 _ rfl
        have hf14_0 : World.frozen? _ ⟨go13, ((ji7) : Int).toNat * 6, none⟩ = false := hfr14 0
        have hf14_1 : World.frozen? _ ⟨go13, ((ji7) : Int).toNat * 6 + 1, none⟩ = false := hfr14 1
        have hf14_2 : World.frozen? _ ⟨go13, ((ji7) : Int).toNat * 6 + 2, none⟩ = false := hfr14 2
        have hf14_3 : World.frozen? _ ⟨go13, ((ji7) : Int).toNat * 6 + 3, none⟩ = false := hfr14 3
        have hf14_4 : World.frozen? _ ⟨go13, ((ji7) : Int).toNat * 6 + 4, none⟩ = false := hfr14 4
        have hf14_5 : World.frozen? _ ⟨go13, ((ji7) : Int).toNat * 6 + 5, none⟩ = false := hfr14 5
        clear hcl14 hcc14 hfr14 hM14; replace p14 := eq_true p14; replace q14 := eq_true q14
        obtain ⟨ce18, hcl18, hM18, hcc18, hfr18⟩ := Kd.R_elem HQ17.out z55 ((ji7) : Int) (of_decide_eq_true as_) (by have h_ : ((ji7) : Int) < ((x0_1.length : Int) : Int) := of_decide_eq_true as_; first | exact h_ | (have e_ := (Kd.R_reads' HO_0.out).1; omega) | simpa using h_)
        obtain rfl := k55_openM hM18
        have HP18 := (Kd.R_seg HQ17.out ((ji7) : Int) (of_decide_eq_true as_) (by have h_ : ((ji7) : Int) < ((x0_1.length : Int) : Int) := of_decide_eq_true as_; first | exact h_ | (have e_ := (Kd.R_reads' HO_0.out).1; omega) | simpa using h_) (seg := [.string ((rd_T55 x0_1 (ji10)).f0.f0), .string ((rd_T55 x0_1 (ji10)).f0.f1), .string ((rd_T55 x0_1 (ji10)).f0.f2), .string ((rd_T55 x0_1 (ji10)).f0.f3), .int .i64 ((rd_T55 x0_1 (ji10)).f0.f4), .int .i64 ((rd_T55 x0_1 (ji10)).f1)]) (j := 0) hcl18 hcc18 (show 6 ≤ 6 from by decide) (x' := (⟨(⟨(rd_T55 x0_1 (ji10)).f0.f0, (rd_T55 x0_1 (ji10)).f0.f1, (rd_T55 x0_1 (ji10)).f0.f2, (rd_T55 x0_1 (ji10)).f0.f3, (rd_T55 x0_1 (ji10)).f0.f4⟩ : S44), (rd_T55 x0_1 (ji10)).f1⟩ : S55)) (k55_mkM _ _ _ (⟨(⟨(rd_T55 x0_1 (ji10)).f0.f0, (rd_T55 x0_1 (ji10)).f0.f1, (rd_T55 x0_1 (ji10)).f0.f2, (rd_T55 x0_1 (ji10)).f0.f3, (rd_T55 x0_1 (ji10)).f0.f4⟩ : S44), (rd_T55 x0_1 (ji10)).f1⟩ : S55) ) (fun _ hk => hk)).1
        rw [← Ny131.out] at HP18
        have HQ18 := Aside0.mk HP18; clear hcl18 hcc18 hfr18 hM18 HP18
        refine start_ (n := 24) (S := fun w' => w'.cell? ⟨go13, ((ji7)).toNat * 6, none⟩ = some (.string ((rd_T55 x0_1 (ji7)).f0.f0)) ∧ w'.cell? ⟨go13, ((ji7)).toNat * 6 + 1, none⟩ = some (.string ((rd_T55 x0_1 (ji7)).f0.f1)) ∧ w'.cell? ⟨go13, ((ji7)).toNat * 6 + 2, none⟩ = some (.string ((rd_T55 x0_1 (ji7)).f0.f2)) ∧ w'.cell? ⟨go13, ((ji7)).toNat * 6 + 3, none⟩ = some (.string ((rd_T55 x0_1 (ji7)).f0.f3)) ∧ w'.cell? ⟨go13, ((ji7)).toNat * 6 + 4, none⟩ = some (.int .i64 ((rd_T55 x0_1 (ji7)).f0.f4)) ∧ w'.cell? ⟨go13, ((ji7)).toNat * 6 + 5, none⟩ = some (.int .i64 ((rd_T55 x0_1 (ji7)).f1)) ∧ w'.cell? ⟨go13, ((ji10)).toNat * 6, none⟩ = some (.string ((rd_T55 x0_1 (ji10)).f0.f0)) ∧ w'.cell? ⟨go13, ((ji10)).toNat * 6 + 1, none⟩ = some (.string ((rd_T55 x0_1 (ji10)).f0.f1)) ∧ w'.cell? ⟨go13, ((ji10)).toNat * 6 + 2, none⟩ = some (.string ((rd_T55 x0_1 (ji10)).f0.f2)) ∧ w'.cell? ⟨go13, ((ji10)).toNat * 6 + 3, none⟩ = some (.string ((rd_T55 x0_1 (ji10)).f0.f3)) ∧ w'.cell? ⟨go13, ((ji10)).toNat * 6 + 4, none⟩ = some (.int .i64 ((rd_T55 x0_1 (ji10)).f0.f4)) ∧ w'.cell? ⟨go13, ((ji10)).toNat * 6 + 5, none⟩ = some (.int .i64 ((rd_T55 x0_1 (ji10)).f1))) (ds := [21, 23]) (fl 24 0) (by kernel_rfl) rfl rfl ⟨hx128_0, hx128_1, hx128_2, hx128_3, hx128_4, hx128_5, hx129_0, hx129_1, hx129_2, hx129_3, hx129_4, hx129_5⟩ (fun hHeld => ?_); refine with_tabW fact_Fact_51.tab3 fact_Fact_51.bits3 (fun HT_ HW_ => ?_)
        generalize wr.drew = w15 at HO_0 HK HB GG13 HQ17 HQ18 hf13_0 hf13_1 hf13_2 hf13_3 hf13_4 hf13_5 hf14_0 hf14_1 hf14_2 hf14_3 hf14_4 hf14_5 hx128_0 hx128_1 hx128_2 hx128_3 hx128_4 hx128_5 hx129_0 hx129_1 hx129_2 hx129_3 hx129_4 hx129_5 hx13_0 hx13_1 hx13_2 hx13_3 hx13_4 hx13_5 hx14_0 hx14_1 hx14_2 hx14_3 hx14_4 hx14_5 hHeld ⊢
        refine pu 0 (some 16) (fl 24 1) HT_ ?_
        refine pu 1 (some 17) (fl 24 3) HT_ ?_
        refine pu 2 (some 18) (fl 24 7) HT_ ?_
        refine pu 3 (some 19) (fl 24 15) HT_ ?_
        refine pu 4 (some 20) (fl 24 31) HT_ ?_
        refine pu 5 (some 21) (fl 24 63) HT_ ?_
        refine pu 6 (some 22) (fl 24 127) HT_ ?_
        refine pu 7 (some 23) (fl 24 255) HT_ ?_
        refine pu 8 (some 24) (fl 24 511) HT_ ?_
        refine pu 9 (some 25) (fl 24 1023) HT_ ?_
        refine pu 10 (some 26) (fl 24 2047) HT_ ?_
        refine pu 11 (some 27) (fl 24 4095) HT_ ?_
        refine pu 12 (some 28) (fl 24 8191) HT_ ?_
        refine pu 14 (some 30) (fl 24 24575) HT_ ?_
        refine pu 15 (some 31) (fl 24 57343) HT_ ?_
        refine pu 16 (some 32) (fl 24 122879) HT_ ?_
        refine pu 17 (some 33) (fl 24 253951) HT_ ?_
        refine pu 18 (some 34) (fl 24 516095) HT_ ?_
        refine tu 13 (some 29) (fl 24 524287) HT_ HW_ hHeld ?_
        refine tu 19 (some 35) (fl 24 1048575) HT_ HW_ hHeld ?_
        refine pu 20 (some 36) (fl 24 2097151) HT_ ?_
        refine last_ (i := 21) (N := none) (fl 24 4194303) rfl rfl (one_of HT_.out (by kernel_rfl)) (by decide) (fun K hK => ?_)
        refine skip_ (w1 := ?_) (by rfl) rfl ?_ ?_
        rotate_left
        ·go_simp; rfl
        refine hK.out _ _ ?_
        clear hK K
        refine pu 22 (some 37) (fl 24 8388607) HT_ ?_
        refine last_ (i := 23) (N := none) (fl 24 16777215) rfl rfl (one_of HT_.out (by kernel_rfl)) (by decide) (fun K hK => ?_)
        refine skip_ (w1 := ?_) (by rfl) rfl ?_ ?_
        rotate_left
        ·obtain ⟨gv_0_0, gy_0_0⟩ := cell?_setCell_some (p := ⟨go13, (ji10).toNat * 6, none⟩) (x := .string ((rd_T55 x0_1 (ji7)).f0.f0)) hx128_0
         obtain ⟨gv_1_0, gy_1_0⟩ := cell?_setCell_some (p := ⟨go13, (ji10).toNat * 6, none⟩) (x := .string ((rd_T55 x0_1 (ji7)).f0.f0)) hx128_1
         obtain ⟨gv_1_1, gy_1_1⟩ := cell?_setCell_some (p := ⟨go13, (ji10).toNat * 6 + 1, none⟩) (x := .string ((rd_T55 x0_1 (ji7)).f0.f1)) gy_1_0
         clear gy_1_0
         obtain ⟨gv_2_0, gy_2_0⟩ := cell?_setCell_some (p := ⟨go13, (ji10).toNat * 6, none⟩) (x := .string ((rd_T55 x0_1 (ji7)).f0.f0)) hx128_2
         obtain ⟨gv_2_1, gy_2_1⟩ := cell?_setCell_some (p := ⟨go13, (ji10).toNat * 6 + 1, none⟩) (x := .string ((rd_T55 x0_1 (ji7)).f0.f1)) gy_2_0
         obtain ⟨gv_2_2, gy_2_2⟩ := cell?_setCell_some (p := ⟨go13, (ji10).toNat * 6 + 2, none⟩) (x := .string ((rd_T55 x0_1 (ji7)).f0.f2)) gy_2_1
         clear gy_2_0 gy_2_1
         obtain ⟨gv_3_0, gy_3_0⟩ := cell?_setCell_some (p := ⟨go13, (ji10).toNat * 6, none⟩) (x := .string ((rd_T55 x0_1 (ji7)).f0.f0)) hx128_3
         obtain ⟨gv_3_1, gy_3_1⟩ := cell?_setCell_some (p := ⟨go13, (ji10).toNat * 6 + 1, none⟩) (x := .string ((rd_T55 x0_1 (ji7)).f0.f1)) gy_3_0
         obtain ⟨gv_3_2, gy_3_2⟩ := cell?_setCell_some (p := ⟨go13, (ji10).toNat * 6 + 2, none⟩) (x := .string ((rd_T55 x0_1 (ji7)).f0.f2)) gy_3_1
         obtain ⟨gv_3_3, gy_3_3⟩ := cell?_setCell_some (p := ⟨go13, (ji10).toNat * 6 + 3, none⟩) (x := .string ((rd_T55 x0_1 (ji7)).f0.f3)) gy_3_2
         clear gy_3_0 gy_3_1 gy_3_2
         obtain ⟨gv_4_0, gy_4_0⟩ := cell?_setCell_some (p := ⟨go13, (ji10).toNat * 6, none⟩) (x := .string ((rd_T55 x0_1 (ji7)).f0.f0)) hx128_4
         obtain ⟨gv_4_1, gy_4_1⟩ := cell?_setCell_some (p := ⟨go13, (ji10).toNat * 6 + 1, none⟩) (x := .string ((rd_T55 x0_1 (ji7)).f0.f1)) gy_4_0
         obtain ⟨gv_4_2, gy_4_2⟩ := cell?_setCell_some (p := ⟨go13, (ji10).toNat * 6 + 2, none⟩) (x := .string ((rd_T55 x0_1 (ji7)).f0.f2)) gy_4_1
         obtain ⟨gv_4_3, gy_4_3⟩ := cell?_setCell_some (p := ⟨go13, (ji10).toNat * 6 + 3, none⟩) (x := .string ((rd_T55 x0_1 (ji7)).f0.f3)) gy_4_2
         obtain ⟨gv_4_4, gy_4_4⟩ := cell?_setCell_some (p := ⟨go13, (ji10).toNat * 6 + 4, none⟩) (x := .int .i64 ((rd_T55 x0_1 (ji7)).f0.f4)) gy_4_3
         clear gy_4_0 gy_4_1 gy_4_2 gy_4_3
         obtain ⟨gv_5_0, gy_5_0⟩ := cell?_setCell_some (p := ⟨go13, (ji10).toNat * 6, none⟩) (x := .string ((rd_T55 x0_1 (ji7)).f0.f0)) hx128_5
         obtain ⟨gv_5_1, gy_5_1⟩ := cell?_setCell_some (p := ⟨go13, (ji10).toNat * 6 + 1, none⟩) (x := .string ((rd_T55 x0_1 (ji7)).f0.f1)) gy_5_0
         obtain ⟨gv_5_2, gy_5_2⟩ := cell?_setCell_some (p := ⟨go13, (ji10).toNat * 6 + 2, none⟩) (x := .string ((rd_T55 x0_1 (ji7)).f0.f2)) gy_5_1
         obtain ⟨gv_5_3, gy_5_3⟩ := cell?_setCell_some (p := ⟨go13, (ji10).toNat * 6 + 3, none⟩) (x := .string ((rd_T55 x0_1 (ji7)).f0.f3)) gy_5_2
         obtain ⟨gv_5_4, gy_5_4⟩ := cell?_setCell_some (p := ⟨go13, (ji10).toNat * 6 + 4, none⟩) (x := .int .i64 ((rd_T55 x0_1 (ji7)).f0.f4)) gy_5_3
         obtain ⟨gv_5_5, gy_5_5⟩ := cell?_setCell_some (p := ⟨go13, (ji10).toNat * 6 + 5, none⟩) (x := .int .i64 ((rd_T55 x0_1 (ji7)).f1)) gy_5_4
         clear gy_5_0 gy_5_1 gy_5_2 gy_5_3 gy_5_4
         obtain ⟨_, _, _, _, gfr_⟩ := Kd.R_elem HO_0.out z55 ((ji7) : Int) (of_eq_true p128) (of_eq_true q128)
         have gf_0 : World.frozen? _ ⟨go13, (ji7).toNat * 6, none⟩ = false := gfr_ 0
         have gf_1 : World.frozen? _ ⟨go13, (ji7).toNat * 6 + 1, none⟩ = false := gfr_ 1
         have gf_2 : World.frozen? _ ⟨go13, (ji7).toNat * 6 + 2, none⟩ = false := gfr_ 2
         have gf_3 : World.frozen? _ ⟨go13, (ji7).toNat * 6 + 3, none⟩ = false := gfr_ 3
         have gf_4 : World.frozen? _ ⟨go13, (ji7).toNat * 6 + 4, none⟩ = false := gfr_ 4
         have gf_5 : World.frozen? _ ⟨go13, (ji7).toNat * 6 + 5, none⟩ = false := gfr_ 5
         clear gfr_; go_simp; rfl
        refine hK.out _ _ ?_
        clear hK K
        refine done_ (done_of HT_.out (by kernel_rfl)) ?_
        try go_wp2
        go_roundg k1
        case measure => have := HK1.out; omega
        case rel => exact ⟨(y131), (wrap64 (x10_1 + 1)), rs_, H', ⟨by have := HK1.out; omega⟩, ⟨kr HQ18⟩, ⟨by repeat (first | (with_reducible first | exact HK.out | apply Kept.alloc | apply Kept.drewN | apply Kept.drew | refine Kept.setCell ?_ HMgo13.out _ | refine Kept.setCell ?_ HMgo13.out _ | refine Kept.setCell ?_ HMgo13.out _ | refine Kept.setCell ?_ HMgo13.out _ | refine Kept.setCell ?_ HMgo13.out _ | refine Kept.setCell ?_ HMgo13.out _ | refine Kept.setCell ?_ HMgo13.out _ | refine Kept.setCell ?_ HMgo13.out _ | refine Kept.setCell ?_ HMgo13.out _ | refine Kept.setCell ?_ HMgo13.out _ | refine Kept.setCell ?_ HMgo13.out _ | refine Kept.setCell ?_ HMgo13.out _) | exact HK.out)⟩, ⟨by repeat (first | (with_reducible first | exact HB.out | apply below_alloc | apply pw_below_drewN | apply below_drew1 | refine below_set ?_ GB13.out | refine below_set ?_ GB13.out | refine below_set ?_ GB13.out | refine below_set ?_ GB13.out | refine below_set ?_ GB13.out | refine below_set ?_ GB13.out | refine below_set ?_ GB13.out | refine below_set ?_ GB13.out | refine below_set ?_ GB13.out | refine below_set ?_ GB13.out | refine below_set ?_ GB13.out | refine below_set ?_ GB13.out) | exact HB.out)⟩⟩
       ·rw [if_neg c12] at H
        exact absurd H (by simp)
      ·rw [if_neg c11] at H
       exact absurd H (by simp)
     ·rw [if_neg c9] at H
      exact absurd H (by simp)
    ·rw [if_neg c8] at H
     exact absurd H (by simp)
   ·rw [if_neg c6] at H
    have c6b0 : decide (x10_1 < a3) = false := decide_eq_false c6
    clear c6
    obtain rfl := Option.some.inj H
    go_wp2
    first | go_end0 | ((try simp only [Exit.inBlock, Exit.then]); refine bodyPost_ret (results_none rfl _ _ _) rfl ?_)
    exact ⟨re_, kr HO_0, by repeat (first | (with_reducible first | exact HB.out | apply below_alloc | apply pw_below_drewN | apply below_drew1) | exact HB.out), kp_⟩

end Go.Proofs.Ytdckeflggcefbaa.Y
