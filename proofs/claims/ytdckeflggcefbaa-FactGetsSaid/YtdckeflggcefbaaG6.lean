/- Plain Lean functions with the answers of the program's functions, and proofs that the machine's calls come to them; lines written by a program for this claim. No conditions. -/
import Derived.Test.YtdckeflggcefbaaG1
import Derived.Test.YtdckeflggcefbaaG4
namespace Go.Proofs.Ytdckeflggcefbaa.Y
open Go.RowKit Go.Proofs.YtdckeflggcefbaaW.PrintWords Go.Proofs.YtdckeflggcefbaaW.PrintLast Go.Proofs.YtdckeflggcefbaaW.PrintMore
attribute [local go_sem] max2_int min2_int max_two min_two max_three min_three max_four min_four
set_option linter.unusedVariables false
set_option linter.unusedSimpArgs false

set_option maxHeartbeats 60000000 in
set_option maxRecDepth 100000 in
theorem fact_Fact_48.partB (k : Nat) (ih : ∀ m, m < k + 1 → fact_Fact_48.Said m) (P0_ : Nat → Prop) (u9000_ : Value) (l0 : List (S55)) (a1 : Int) (a2 : Int) (a3 : Int)  (r : List (S55)) (w0 w : World) (hB : Below w0.heap.size w0 w) (ho0 : Kd.R k55 55 w w0.heap.size P0_ u9000_ l0) (h : fact_Fact_48.f (k + 1) l0 a1 a2 a3 = some r) (hcA : Aside0 (¬ (wrap64 (a2 - a1)) = 1)) (hcB : Aside0 ((wrap64 (a3 - a2)) = 1)) :
  Calls Try.prog 48 #[u9000_, .int .i64 a1, .int .i64 a2, .int .i64 a3, .func (.func 34) #[] #[]] w fun e w' => e = .returned (.tuple #[]) ∧ Kd.R k55 55 w' w0.heap.size (fun k_ => (P0_ k_ ∨ w.heap.size ≤ k_)) u9000_ r ∧ Below w0.heap.size w0 w' ∧ Kept w w' (fun k_ => P0_ k_) := by
 simp only [fact_Fact_48.f] at h
 have hu55 := Try.underlying55
 have HO0 := Aside0.mk (show Kd.R k55 55 w w0.heap.size (fun k_ => (P0_ k_ ∨ w.heap.size ≤ k_)) u9000_ l0 from Kd.R_mono ho0 (fun k_ hk => (.inl hk)))
 have HK := Aside0.mk (Kept.refl w (fun k_ => P0_ k_))
 have HW0 := Aside0.mk hB.size
 have HB := Aside0.mk hB; clear hB
 have H : (if (wrap64 (a2 - a1)) = 1 then (fact_Fact_48.l0 k l0 a1 a2 a3) else (if (wrap64 (a3 - a2)) = 1 then (fact_Fact_48.l2 k l0 a2 a1 a2) else (if a2 > (wrap64 ((IntKind.u64.wrap (wrap64 (a1 + a3))) / 2)) then (fact_Fact_48.j4 k l0 a1 a2 a3 (wrap64 ((IntKind.u64.wrap (wrap64 (a1 + a3))) / 2)) (wrap64 ((wrap64 ((IntKind.u64.wrap (wrap64 (a1 + a3))) / 2)) + a2)) (wrap64 ((wrap64 ((wrap64 ((IntKind.u64.wrap (wrap64 (a1 + a3))) / 2)) + a2)) - a3)) (wrap64 ((IntKind.u64.wrap (wrap64 (a1 + a3))) / 2))) else (fact_Fact_48.j4 k l0 a1 a2 a3 (wrap64 ((IntKind.u64.wrap (wrap64 (a1 + a3))) / 2)) (wrap64 ((wrap64 ((IntKind.u64.wrap (wrap64 (a1 + a3))) / 2)) + a2)) a1 a2)))) = some r := h
 clear h
 by_cases c6 : (wrap64 (a2 - a1)) = 1
 ·exact absurd c6 hcA.out
 ·rw [if_neg c6] at H
  have c6b0 : ((wrap64 (a2 - a1)) == 1) = false := beq_eq_false_iff_ne.mpr c6
  have c6b1 : ((wrap64 (a2 - a1)) != 1) = true := bne_iff_ne.mpr c6
  by_cases c33 : (wrap64 (a3 - a2)) = 1
  ·rw [if_pos c33] at H
   have c33b0 : ((wrap64 (a3 - a2)) == 1) = true := beq_iff_eq.mpr c33
   have c33b1 : ((wrap64 (a3 - a2)) != 1) = false := bne_eq_false_iff_eq.mpr c33
   clear c33
   have H' := Aside0.mk H
   clear H
   go_enter Try.func48, Try.ntmps48
   go_wp2
   go_loopg [14, 15] k (fun kq v14 v15 w' => ∃ (x14_1 : Int) (x15_1 : Int), v14 = .int .i64 x14_1 ∧ v15 = .int .i64 x15_1 ∧ Aside0 (fact_Fact_48.l2 kq l0 a2 x14_1 x15_1 = some r) ∧ Aside0 (kq ≤ k) ∧ Aside0 (Kd.R k55 55 w' w0.heap.size (fun k_ => (P0_ k_ ∨ w.heap.size ≤ k_)) u9000_ l0) ∧ Aside0 (Kept w w' (fun k_ => P0_ k_)) ∧ Aside0 (Below w0.heap.size w0 w'))
   case atStart => exact ⟨(a1), (a2), rs_, rs_, H', ⟨Nat.le_refl _⟩, ⟨kr HO0⟩, ⟨kp_⟩, ⟨bw⟩⟩
   case round =>
    clear H'
    (try clear c1); (try clear p1); (try clear q1); (try clear hx1); (try clear c2); (try clear p2); (try clear q2); (try clear hx2); (try clear c3); (try clear c4); (try clear c6); (try clear c6b0); (try clear c6b1); (try clear p6); (try clear c7); (try clear c7b0); (try clear c9); (try clear c9b0); (try clear c10); (try clear c10b0); (try clear c11); (try clear c11b0); (try clear c12); (try clear c12b0); (try clear p13); (try clear q13); (try clear hx13); (try clear c14); (try clear c14b0); (try clear c21); (try clear c21b0); (try clear c23); (try clear c23b0); (try clear c24); (try clear c24b0); (try clear c25); (try clear c25b0); (try clear c26); (try clear c26b0); (try clear c27); (try clear p27); (try clear q27); (try clear hx27); (try clear hf27); (try clear c28); (try clear p28); (try clear q28); (try clear hx28); (try clear hf28); (try clear c31); (try clear c32); (try clear c33); (try clear c33b0); (try clear c33b1); (try clear hx135_0); (try clear hx135_1); (try clear hx135_2); (try clear hx135_3); (try clear hx135_4); (try clear hx135_5); (try clear hx136_0); (try clear hx136_1); (try clear hx136_2); (try clear hx136_3); (try clear hx136_4); (try clear hx136_5); (try clear hx138_0); (try clear hx138_1); (try clear hx138_2); (try clear hx138_3); (try clear hx138_4); (try clear hx138_5); (try clear hx139_0); (try clear hx139_1); (try clear hx139_2); (try clear hx139_3); (try clear hx139_4); (try clear hx139_5); (try clear hx27_0); (try clear hx27_1); (try clear hx27_2); (try clear hx27_3); (try clear hx27_4); (try clear hx27_5); (try clear hx28_0); (try clear hx28_1); (try clear hx28_2); (try clear hx28_3); (try clear hx28_4); (try clear hx28_5); (try clear p1); (try clear p13); (try clear p135); (try clear p136); (try clear p138); (try clear p139); (try clear p2); (try clear p27); (try clear p28); (try clear p6); (try clear q1); (try clear q13); (try clear q135); (try clear q136); (try clear q138); (try clear q139); (try clear q27); (try clear q28)
    obtain ⟨x14_1, x15_1, rfl, rfl, HA, HK1, HO_0, HK, HB⟩ := hrel
    cases gk with
    | zero => exact absurd HA.out (by simp [fact_Fact_48.l2])
    | succ k1 =>
     have H := HA.out; clear HA
     simp only [fact_Fact_48.l2] at H
     by_cases c34 : x14_1 < x15_1
     ·rw [if_pos c34] at H
      have c34b0 : decide (x14_1 < x15_1) = true := decide_eq_true c34
      clear c34
      by_cases c35 : 0 ≤ a2
      ·rw [if_pos c35] at H
       have c35b0 : decide (0 ≤ a2) = true := decide_eq_true c35
       clear c35
       by_cases c36 : a2 < (l0.length : Int)
       ·rw [if_pos c36] at H
        have c36b0 : decide (a2 < (l0.length : Int)) = true := decide_eq_true c36
        clear c36
        obtain ⟨ji37, hji37⟩ : ∃ j_ : Int, (wrap64 ((IntKind.u64.wrap (wrap64 (x14_1 + x15_1))) / 2)) = j_ := ⟨_, rfl⟩
        replace H : (if 0 ≤ (ji37) then (if (ji37) < (l0.length : Int) then ((fact_Of_1.f k1 ((rd_T55 l0 a2).f0.f0) ((rd_T55 l0 a2).f0.f1) ((rd_T55 l0 a2).f0.f2) ((rd_T55 l0 a2).f0.f3) ((rd_T55 l0 a2).f0.f4) ((rd_T55 l0 a2).f1) ((rd_T55 l0 (ji37)).f0.f0) ((rd_T55 l0 (ji37)).f0.f1) ((rd_T55 l0 (ji37)).f0.f2) ((rd_T55 l0 (ji37)).f0.f3) ((rd_T55 l0 (ji37)).f0.f4) ((rd_T55 l0 (ji37)).f1)).bind fun t144 => (if t144 < 0 then (fact_Fact_48.l2 k1 l0 a2 x14_1 ji37) else (fact_Fact_48.l2 k1 l0 a2 (wrap64 ((ji37) + 1)) x15_1))) else (none)) else (none)) = some r := by first | (rw [hji37] at H; exact H) | (simp only [hji37] at H ⊢; exact H)
        have hji37w : (IntKind.i64.wrap ((IntKind.u64.wrap (wrap64 (x14_1 + x15_1))) / 2)) = ji37 := (i64_w _).trans hji37
        by_cases c38 : 0 ≤ (ji37)
        ·rw [if_pos c38] at H
         have c38b0 : decide (0 ≤ (ji37)) = true := decide_eq_true c38
         clear c38
         by_cases c39 : (ji37) < (l0.length : Int)
         ·rw [if_pos c39] at H
          have c39b0 : decide ((ji37) < (l0.length : Int)) = true := decide_eq_true c39
          clear c39
          replace H := Option.bind_eq_some_iff.mp H
          obtain ⟨t144, A400, H⟩ := H
          replace H : (if t144 < 0 then (fact_Fact_48.l2 k1 l0 a2 x14_1 ji37) else (fact_Fact_48.l2 k1 l0 a2 (wrap64 ((ji37) + 1)) x15_1)) = some r := H
          have A40 := Aside0.mk A400; clear A400
          by_cases c41 : t144 < 0
          ·rw [if_pos c41] at H
           have c41b0 : decide (t144 < 0) = true := decide_eq_true c41
           clear c41
           have H' := Aside0.mk H
           clear H
           try go_wp2
           have n0_ := Aside0.mk (Kd.R_drew HO_0.out)
           have n1_ := Aside0.mk (Kept.drew HK.out)
           have n2_ := Aside0.mk (below_drew1 HB.out)
           clear HO_0 HK HB; have HO_0 := n0_; have HK := n1_; have HB := n2_; clear n0_ n1_ n2_
           obtain ⟨Ao43, co43, eo43⟩ := Kd.R_slice HO_0.out
           (first | subst eo43 | (injection eo43 with f1_ f2_ f3_; have f4_ := f1_.symm; have f5_ := f3_.symm; clear f1_ f2_ f3_; subst f4_; subst f5_))
           have p142 : 0 ≤ (a2 : Int) := of_decide_eq_true as_
           have q142 : a2 < (l0.length : Int) := of_decide_eq_true as_
           obtain ⟨ad142, e142, hx142_0, hx142_1, hx142_2, hx142_3, hx142_4, hx142_5⟩ := at_T55 (Kd.R_reads' HO_0.out).2.2 a2 p142 q142
           cases e142; replace p142 := eq_true p142; replace q142 := eq_true q142
           have p143 : 0 ≤ ((ji37) : Int) := of_decide_eq_true as_
           have q143 : (ji37) < (l0.length : Int) := of_decide_eq_true as_
           obtain ⟨ad143, e143, hx143_0, hx143_1, hx143_2, hx143_3, hx143_4, hx143_5⟩ := at_T55 (Kd.R_reads' HO_0.out).2.2 (ji37) p143 q143
           obtain rfl : ad142 = ad143 := (by injection e143)
           replace p143 := eq_true p143; replace q143 := eq_true q143
           refine start_ (n := 12) (S := fun w' => w'.cell? (ad142.add ((a2).toNat * 6)) = some (.string ((rd_T55 l0 a2).f0.f0)) ∧ w'.cell? ⟨(ad142.add ((a2).toNat * 6)).block, (ad142.add ((a2).toNat * 6)).off + 1, none⟩ = some (.string ((rd_T55 l0 a2).f0.f1)) ∧ w'.cell? ⟨(ad142.add ((a2).toNat * 6)).block, (ad142.add ((a2).toNat * 6)).off + 2, none⟩ = some (.string ((rd_T55 l0 a2).f0.f2)) ∧ w'.cell? ⟨(ad142.add ((a2).toNat * 6)).block, (ad142.add ((a2).toNat * 6)).off + 3, none⟩ = some (.string ((rd_T55 l0 a2).f0.f3)) ∧ w'.cell? ⟨(ad142.add ((a2).toNat * 6)).block, (ad142.add ((a2).toNat * 6)).off + 4, none⟩ = some (.int .i64 ((rd_T55 l0 a2).f0.f4)) ∧ w'.cell? ⟨(ad142.add ((a2).toNat * 6)).block, (ad142.add ((a2).toNat * 6)).off + 5, none⟩ = some (.int .i64 ((rd_T55 l0 a2).f1)) ∧ w'.cell? (ad142.add (((ji37)).toNat * 6)) = some (.string ((rd_T55 l0 (ji37)).f0.f0)) ∧ w'.cell? ⟨(ad142.add (((ji37)).toNat * 6)).block, (ad142.add (((ji37)).toNat * 6)).off + 1, none⟩ = some (.string ((rd_T55 l0 (ji37)).f0.f1)) ∧ w'.cell? ⟨(ad142.add (((ji37)).toNat * 6)).block, (ad142.add (((ji37)).toNat * 6)).off + 2, none⟩ = some (.string ((rd_T55 l0 (ji37)).f0.f2)) ∧ w'.cell? ⟨(ad142.add (((ji37)).toNat * 6)).block, (ad142.add (((ji37)).toNat * 6)).off + 3, none⟩ = some (.string ((rd_T55 l0 (ji37)).f0.f3)) ∧ w'.cell? ⟨(ad142.add (((ji37)).toNat * 6)).block, (ad142.add (((ji37)).toNat * 6)).off + 4, none⟩ = some (.int .i64 ((rd_T55 l0 (ji37)).f0.f4)) ∧ w'.cell? ⟨(ad142.add (((ji37)).toNat * 6)).block, (ad142.add (((ji37)).toNat * 6)).off + 5, none⟩ = some (.int .i64 ((rd_T55 l0 (ji37)).f1))) (ds := []) (fl 12 0) (by kernel_rfl) rfl rfl ⟨hx142_0, hx142_1, hx142_2, hx142_3, hx142_4, hx142_5, hx143_0, hx143_1, hx143_2, hx143_3, hx143_4, hx143_5⟩ (fun hHeld => ?_); refine with_tabW fact_Fact_48.tab17 fact_Fact_48.bits17 (fun HT_ HW_ => ?_)
           generalize wr.drew = w42 at HO_0 HK HB hx142_0 hx142_1 hx142_2 hx142_3 hx142_4 hx142_5 hx143_0 hx143_1 hx143_2 hx143_3 hx143_4 hx143_5 hHeld ⊢
           refine pu 0 (some 92) (fl 12 1) HT_ ?_
           refine pu 1 (some 93) (fl 12 3) HT_ ?_
           refine pu 2 (some 94) (fl 12 7) HT_ ?_
           refine pu 3 (some 95) (fl 12 15) HT_ ?_
           refine pu 5 (some 97) (fl 12 47) HT_ ?_
           refine pu 6 (some 98) (fl 12 111) HT_ ?_
           refine pu 7 (some 99) (fl 12 239) HT_ ?_
           refine tu 4 (some 96) (fl 12 255) HT_ HW_ hHeld ?_
           refine tu 8 (some 100) (fl 12 511) HT_ HW_ hHeld ?_
           refine one_ (i := 9) (N := some 101) (fl 12 1023) rfl rfl (one_of HT_.out (by kernel_rfl)) (by decide) (fun K hK => ?_)
           refine goesV_ Try.func34 (by kernel_rfl) rfl #[.agg #[.string ((rd_T55 l0 a2).f0.f0), .string ((rd_T55 l0 a2).f0.f1), .string ((rd_T55 l0 a2).f0.f2), .string ((rd_T55 l0 a2).f0.f3), .int .i64 ((rd_T55 l0 a2).f0.f4), .int .i64 ((rd_T55 l0 a2).f1)], .agg #[.string ((rd_T55 l0 (ji37)).f0.f0), .string ((rd_T55 l0 (ji37)).f0.f1), .string ((rd_T55 l0 (ji37)).f0.f2), .string ((rd_T55 l0 (ji37)).f0.f3), .int .i64 ((rd_T55 l0 (ji37)).f0.f4), .int .i64 ((rd_T55 l0 (ji37)).f1)]] (by rfl) rfl rfl rfl (by (try simp only [List.map_toArray, List.map_cons, List.map_nil]); first | done | (simp only [hji37]; rfl) | rfl | (simp only [List.length_drop, List.length_take]; rfl)) ?_
           with_reducible refine (fact_Of_1.calls k1 ((rd_T55 l0 a2).f0.f0) ((rd_T55 l0 a2).f0.f1) ((rd_T55 l0 a2).f0.f2) ((rd_T55 l0 a2).f0.f3) ((rd_T55 l0 a2).f0.f4) ((rd_T55 l0 a2).f1) ((rd_T55 l0 (ji37)).f0.f0) ((rd_T55 l0 (ji37)).f0.f1) ((rd_T55 l0 (ji37)).f0.f2) ((rd_T55 l0 (ji37)).f0.f3) ((rd_T55 l0 (ji37)).f0.f4) ((rd_T55 l0 (ji37)).f1) t144 _ A40.out).mono ?_
           rintro e w44 ⟨rfl, hb⟩
           have HS0_ := cb2 hb hHeld.1
           have HS1_ := cb2 hb hHeld.2.1
           have HS2_ := cb2 hb hHeld.2.2.1
           have HS3_ := cb2 hb hHeld.2.2.2.1
           have HS4_ := cb2 hb hHeld.2.2.2.2.1
           have HS5_ := cb2 hb hHeld.2.2.2.2.2.1
           have HS6_ := cb2 hb hHeld.2.2.2.2.2.2.1
           have HS7_ := cb2 hb hHeld.2.2.2.2.2.2.2.1
           have HS8_ := cb2 hb hHeld.2.2.2.2.2.2.2.2.1
           have HS9_ := cb2 hb hHeld.2.2.2.2.2.2.2.2.2.1
           have HS10_ := cb2 hb hHeld.2.2.2.2.2.2.2.2.2.2.1
           have HS11_ := cb2 hb hHeld.2.2.2.2.2.2.2.2.2.2.2
           refine ⟨_, rfl, ?_⟩
           have n0_ := Aside0.mk (Kd.R_below (kr HO_0) hb)
           have n1_ := Aside0.mk (Kept.below (S := (fun k_ => P0_ k_)) kp_ hb)
           have n2_ := Aside0.mk (below_step bw hb)
           clear HO_0 HK HB; have HO_0 := n0_; have HK := n1_; have HB := n2_; clear n0_ n1_ n2_
           (try clear hb)
           (try clear hb2)
           (try clear hk)
           (try clear hi)
           refine hK.out _ _ ⟨HS0_, HS1_, HS2_, HS3_, HS4_, HS5_, HS6_, HS7_, HS8_, HS9_, HS10_, HS11_⟩ (fun hHeld => ?_)
           clear hK K
           refine norm_ (a' := ?_) ?_ ?_
           rotate_left
           ·show Act.put _ (some 101) _ = _
            simp only [Act.put, List.setIfInBounds_toArray, List.set_cons_zero, List.set_cons_succ, i64_w, i32_w]
            rfl
           refine pu 10 (some 102) (fl 12 2047) HT_ ?_
           refine pu 11 (some 103) (fl 12 4095) HT_ ?_
           refine done_ (done_of HT_.out (by kernel_rfl)) ?_
           try go_wp2
           go_roundg k1
           case measure => have := HK1.out; omega
           case rel => exact ⟨(x14_1), (ji37), rs_, (by first | rfl | (simp; done) | (simp only [← hji37] <;> (first | rfl | simp)) | (simp [*]; done)), H', ⟨by have := HK1.out; omega⟩, ⟨kr HO_0⟩, ⟨kp_⟩, ⟨bw⟩⟩
          ·rw [if_neg c41] at H
           have c41b0 : decide (t144 < 0) = false := decide_eq_false c41
           clear c41
           have H' := Aside0.mk H
           clear H
           try go_wp2
           have n0_ := Aside0.mk (Kd.R_drew HO_0.out)
           have n1_ := Aside0.mk (Kept.drew HK.out)
           have n2_ := Aside0.mk (below_drew1 HB.out)
           clear HO_0 HK HB; have HO_0 := n0_; have HK := n1_; have HB := n2_; clear n0_ n1_ n2_
           obtain ⟨Ao46, co46, eo46⟩ := Kd.R_slice HO_0.out
           (first | subst eo46 | (injection eo46 with f1_ f2_ f3_; have f4_ := f1_.symm; have f5_ := f3_.symm; clear f1_ f2_ f3_; subst f4_; subst f5_))
           have p142 : 0 ≤ (a2 : Int) := of_decide_eq_true as_
           have q142 : a2 < (l0.length : Int) := of_decide_eq_true as_
           obtain ⟨ad142, e142, hx142_0, hx142_1, hx142_2, hx142_3, hx142_4, hx142_5⟩ := at_T55 (Kd.R_reads' HO_0.out).2.2 a2 p142 q142
           cases e142; replace p142 := eq_true p142; replace q142 := eq_true q142
           have p143 : 0 ≤ ((ji37) : Int) := of_decide_eq_true as_
           have q143 : (ji37) < (l0.length : Int) := of_decide_eq_true as_
           obtain ⟨ad143, e143, hx143_0, hx143_1, hx143_2, hx143_3, hx143_4, hx143_5⟩ := at_T55 (Kd.R_reads' HO_0.out).2.2 (ji37) p143 q143
           obtain rfl : ad142 = ad143 := (by injection e143)
           replace p143 := eq_true p143; replace q143 := eq_true q143
           refine start_ (n := 12) (S := fun w' => w'.cell? (ad142.add ((a2).toNat * 6)) = some (.string ((rd_T55 l0 a2).f0.f0)) ∧ w'.cell? ⟨(ad142.add ((a2).toNat * 6)).block, (ad142.add ((a2).toNat * 6)).off + 1, none⟩ = some (.string ((rd_T55 l0 a2).f0.f1)) ∧ w'.cell? ⟨(ad142.add ((a2).toNat * 6)).block, (ad142.add ((a2).toNat * 6)).off + 2, none⟩ = some (.string ((rd_T55 l0 a2).f0.f2)) ∧ w'.cell? ⟨(ad142.add ((a2).toNat * 6)).block, (ad142.add ((a2).toNat * 6)).off + 3, none⟩ = some (.string ((rd_T55 l0 a2).f0.f3)) ∧ w'.cell? ⟨(ad142.add ((a2).toNat * 6)).block, (ad142.add ((a2).toNat * 6)).off + 4, none⟩ = some (.int .i64 ((rd_T55 l0 a2).f0.f4)) ∧ w'.cell? ⟨(ad142.add ((a2).toNat * 6)).block, (ad142.add ((a2).toNat * 6)).off + 5, none⟩ = some (.int .i64 ((rd_T55 l0 a2).f1)) ∧ w'.cell? (ad142.add (((ji37)).toNat * 6)) = some (.string ((rd_T55 l0 (ji37)).f0.f0)) ∧ w'.cell? ⟨(ad142.add (((ji37)).toNat * 6)).block, (ad142.add (((ji37)).toNat * 6)).off + 1, none⟩ = some (.string ((rd_T55 l0 (ji37)).f0.f1)) ∧ w'.cell? ⟨(ad142.add (((ji37)).toNat * 6)).block, (ad142.add (((ji37)).toNat * 6)).off + 2, none⟩ = some (.string ((rd_T55 l0 (ji37)).f0.f2)) ∧ w'.cell? ⟨(ad142.add (((ji37)).toNat * 6)).block, (ad142.add (((ji37)).toNat * 6)).off + 3, none⟩ = some (.string ((rd_T55 l0 (ji37)).f0.f3)) ∧ w'.cell? ⟨(ad142.add (((ji37)).toNat * 6)).block, (ad142.add (((ji37)).toNat * 6)).off + 4, none⟩ = some (.int .i64 ((rd_T55 l0 (ji37)).f0.f4)) ∧ w'.cell? ⟨(ad142.add (((ji37)).toNat * 6)).block, (ad142.add (((ji37)).toNat * 6)).off + 5, none⟩ = some (.int .i64 ((rd_T55 l0 (ji37)).f1))) (ds := []) (fl 12 0) (by kernel_rfl) rfl rfl ⟨hx142_0, hx142_1, hx142_2, hx142_3, hx142_4, hx142_5, hx143_0, hx143_1, hx143_2, hx143_3, hx143_4, hx143_5⟩ (fun hHeld => ?_); refine with_tabW fact_Fact_48.tab17 fact_Fact_48.bits17 (fun HT_ HW_ => ?_)
           generalize wr.drew = w45 at HO_0 HK HB hx142_0 hx142_1 hx142_2 hx142_3 hx142_4 hx142_5 hx143_0 hx143_1 hx143_2 hx143_3 hx143_4 hx143_5 hHeld ⊢
           refine pu 0 (some 92) (fl 12 1) HT_ ?_
           refine pu 1 (some 93) (fl 12 3) HT_ ?_
           refine pu 2 (some 94) (fl 12 7) HT_ ?_
           refine pu 3 (some 95) (fl 12 15) HT_ ?_
           refine pu 5 (some 97) (fl 12 47) HT_ ?_
           refine pu 6 (some 98) (fl 12 111) HT_ ?_
           refine pu 7 (some 99) (fl 12 239) HT_ ?_
           refine tu 4 (some 96) (fl 12 255) HT_ HW_ hHeld ?_
           refine tu 8 (some 100) (fl 12 511) HT_ HW_ hHeld ?_
           refine one_ (i := 9) (N := some 101) (fl 12 1023) rfl rfl (one_of HT_.out (by kernel_rfl)) (by decide) (fun K hK => ?_)
           refine goesV_ Try.func34 (by kernel_rfl) rfl #[.agg #[.string ((rd_T55 l0 a2).f0.f0), .string ((rd_T55 l0 a2).f0.f1), .string ((rd_T55 l0 a2).f0.f2), .string ((rd_T55 l0 a2).f0.f3), .int .i64 ((rd_T55 l0 a2).f0.f4), .int .i64 ((rd_T55 l0 a2).f1)], .agg #[.string ((rd_T55 l0 (ji37)).f0.f0), .string ((rd_T55 l0 (ji37)).f0.f1), .string ((rd_T55 l0 (ji37)).f0.f2), .string ((rd_T55 l0 (ji37)).f0.f3), .int .i64 ((rd_T55 l0 (ji37)).f0.f4), .int .i64 ((rd_T55 l0 (ji37)).f1)]] (by rfl) rfl rfl rfl (by (try simp only [List.map_toArray, List.map_cons, List.map_nil]); first | done | (simp only [hji37]; rfl) | rfl | (simp only [List.length_drop, List.length_take]; rfl)) ?_
           with_reducible refine (fact_Of_1.calls k1 ((rd_T55 l0 a2).f0.f0) ((rd_T55 l0 a2).f0.f1) ((rd_T55 l0 a2).f0.f2) ((rd_T55 l0 a2).f0.f3) ((rd_T55 l0 a2).f0.f4) ((rd_T55 l0 a2).f1) ((rd_T55 l0 (ji37)).f0.f0) ((rd_T55 l0 (ji37)).f0.f1) ((rd_T55 l0 (ji37)).f0.f2) ((rd_T55 l0 (ji37)).f0.f3) ((rd_T55 l0 (ji37)).f0.f4) ((rd_T55 l0 (ji37)).f1) t144 _ A40.out).mono ?_
           rintro e w47 ⟨rfl, hb⟩
           have HS0_ := cb2 hb hHeld.1
           have HS1_ := cb2 hb hHeld.2.1
           have HS2_ := cb2 hb hHeld.2.2.1
           have HS3_ := cb2 hb hHeld.2.2.2.1
           have HS4_ := cb2 hb hHeld.2.2.2.2.1
           have HS5_ := cb2 hb hHeld.2.2.2.2.2.1
           have HS6_ := cb2 hb hHeld.2.2.2.2.2.2.1
           have HS7_ := cb2 hb hHeld.2.2.2.2.2.2.2.1
           have HS8_ := cb2 hb hHeld.2.2.2.2.2.2.2.2.1
           have HS9_ := cb2 hb hHeld.2.2.2.2.2.2.2.2.2.1
           have HS10_ := cb2 hb hHeld.2.2.2.2.2.2.2.2.2.2.1
           have HS11_ := cb2 hb hHeld.2.2.2.2.2.2.2.2.2.2.2
           refine ⟨_, rfl, ?_⟩
           have n0_ := Aside0.mk (Kd.R_below (kr HO_0) hb)
           have n1_ := Aside0.mk (Kept.below (S := (fun k_ => P0_ k_)) kp_ hb)
           have n2_ := Aside0.mk (below_step bw hb)
           clear HO_0 HK HB; have HO_0 := n0_; have HK := n1_; have HB := n2_; clear n0_ n1_ n2_
           (try clear hb)
           (try clear hb2)
           (try clear hk)
           (try clear hi)
           refine hK.out _ _ ⟨HS0_, HS1_, HS2_, HS3_, HS4_, HS5_, HS6_, HS7_, HS8_, HS9_, HS10_, HS11_⟩ (fun hHeld => ?_)
           clear hK K
           refine norm_ (a' := ?_) ?_ ?_
           rotate_left
           ·show Act.put _ (some 101) _ = _
            simp only [Act.put, List.setIfInBounds_toArray, List.set_cons_zero, List.set_cons_succ, i64_w, i32_w]
            rfl
           refine pu 10 (some 102) (fl 12 2047) HT_ ?_
           refine pu 11 (some 103) (fl 12 4095) HT_ ?_
           refine done_ (done_of HT_.out (by kernel_rfl)) ?_
           try go_wp2
           go_roundg k1
           case measure => have := HK1.out; omega
           case rel => exact ⟨(wrap64 ((ji37) + 1)), (x15_1), (by first | rfl | (simp; done) | (simp only [← hji37] <;> (first | rfl | simp)) | (simp [*]; done)), rs_, H', ⟨by have := HK1.out; omega⟩, ⟨kr HO_0⟩, ⟨kp_⟩, ⟨bw⟩⟩
         ·rw [if_neg c39] at H
          exact absurd H (by simp)
        ·rw [if_neg c38] at H
         exact absurd H (by simp)
       ·rw [if_neg c36] at H
        exact absurd H (by simp)
      ·rw [if_neg c35] at H
       exact absurd H (by simp)
     ·rw [if_neg c34] at H
      have c34b0 : decide (x14_1 < x15_1) = false := decide_eq_false c34
      clear c34
      have H' := Aside0.mk H
      clear H; go_wp2
      go_loopg [17] k1 (fun kq v17 w' => ∃ (x0_2 : List (S55)) (x17_2 : Int), v17 = .int .i64 x17_2 ∧ Aside0 (fact_Fact_48.l3 kq x0_2 x14_1 x17_2 = some r) ∧ Aside0 (kq ≤ k1) ∧ Aside0 (Kd.R k55 55 w' w0.heap.size (fun k_ => (P0_ k_ ∨ w.heap.size ≤ k_)) u9000_ x0_2) ∧ Aside0 (Kept w w' (fun k_ => P0_ k_)) ∧ Aside0 (Below w0.heap.size w0 w'))
      case atStart => exact ⟨(l0), (a2), rs_, H', ⟨Nat.le_refl _⟩, ⟨kr HO_0⟩, ⟨kp_⟩, ⟨bw⟩⟩
      case round =>
       clear H'
       (try clear c1); (try clear p1); (try clear q1); (try clear hx1); (try clear c2); (try clear p2); (try clear q2); (try clear hx2); (try clear c3); (try clear c4); (try clear c6); (try clear c6b0); (try clear c6b1); (try clear p6); (try clear c7); (try clear c7b0); (try clear c9); (try clear c9b0); (try clear c10); (try clear c10b0); (try clear c11); (try clear c11b0); (try clear c12); (try clear c12b0); (try clear p13); (try clear q13); (try clear hx13); (try clear c14); (try clear c14b0); (try clear p14); (try clear q14); (try clear hx14); (try clear c21); (try clear c21b0); (try clear c23); (try clear c23b0); (try clear c24); (try clear c24b0); (try clear c25); (try clear c25b0); (try clear c26); (try clear c26b0); (try clear c27); (try clear p27); (try clear q27); (try clear hx27); (try clear hf27); (try clear c28); (try clear p28); (try clear q28); (try clear hx28); (try clear hf28); (try clear c31); (try clear c32); (try clear c33); (try clear c33b0); (try clear c33b1); (try clear c34); (try clear c34b0); (try clear c35); (try clear c35b0); (try clear c36); (try clear c36b0); (try clear c38); (try clear c38b0); (try clear c39); (try clear c39b0); (try clear c41); (try clear c41b0); (try clear hx135_0); (try clear hx135_1); (try clear hx135_2); (try clear hx135_3); (try clear hx135_4); (try clear hx135_5); (try clear hx136_0); (try clear hx136_1); (try clear hx136_2); (try clear hx136_3); (try clear hx136_4); (try clear hx136_5); (try clear hx138_0); (try clear hx138_1); (try clear hx138_2); (try clear hx138_3); (try clear hx138_4); (try clear hx138_5); (try clear hx139_0); (try clear hx139_1); (try clear hx139_2); (try clear hx139_3); (try clear hx139_4); (try clear hx139_5); (try clear hx142_0); (try clear hx142_1); (try clear hx142_2); (try clear hx142_3); (try clear hx142_4); (try clear hx142_5); (try clear hx143_0); (try clear hx143_1); (try clear hx143_2); (try clear hx143_3); (try clear hx143_4); (try clear hx143_5); (try clear hx27_0); (try clear hx27_1); (try clear hx27_2); (try clear hx27_3); (try clear hx27_4); (try clear hx27_5); (try clear hx28_0); (try clear hx28_1); (try clear hx28_2); (try clear hx28_3); (try clear hx28_4); (try clear hx28_5); (try clear p1); (try clear p13); (try clear p135); (try clear p136); (try clear p138); (try clear p139); (try clear p142); (try clear p143); (try clear p2); (try clear p27); (try clear p28); (try clear p6); (try clear q1); (try clear q13); (try clear q135); (try clear q136); (try clear q138); (try clear q139); (try clear q142); (try clear q143); (try clear q2); (try clear q27); (try clear q28)
       obtain ⟨x0_2, x17_2, rfl, HA, HK2, HO_0, HK, HB⟩ := hrel
       cases gk with
       | zero => exact absurd HA.out (by simp [fact_Fact_48.l3])
       | succ k2 =>
        have H := HA.out; clear HA
        simp only [fact_Fact_48.l3] at H
        by_cases c48 : x17_2 > x14_1
        ·rw [if_pos c48] at H
         have c48b0 : decide (x14_1 < x17_2) = true := decide_eq_true c48
         clear c48
         obtain ⟨ji49, hji49⟩ : ∃ j_ : Int, (wrap64 (x17_2 - 1)) = j_ := ⟨_, rfl⟩
         replace H : (if 0 ≤ (ji49) then (if (ji49) < (x0_2.length : Int) then (if 0 ≤ x17_2 then (if x17_2 < (x0_2.length : Int) then (fact_Fact_48.l3 k2 ((x0_2.set (x17_2 : Int).toNat (⟨(⟨(rd_T55 x0_2 (ji49)).f0.f0, (rd_T55 x0_2 (ji49)).f0.f1, (rd_T55 x0_2 (ji49)).f0.f2, (rd_T55 x0_2 (ji49)).f0.f3, (rd_T55 x0_2 (ji49)).f0.f4⟩ : S44), (rd_T55 x0_2 (ji49)).f1⟩ : S55)).set ((ji49) : Int).toNat (⟨(⟨(rd_T55 x0_2 x17_2).f0.f0, (rd_T55 x0_2 x17_2).f0.f1, (rd_T55 x0_2 x17_2).f0.f2, (rd_T55 x0_2 x17_2).f0.f3, (rd_T55 x0_2 x17_2).f0.f4⟩ : S44), (rd_T55 x0_2 x17_2).f1⟩ : S55)) x14_1 ji49) else (none)) else (none)) else (none)) else (none)) = some r := by first | (rw [hji49] at H; exact H) | (simp only [hji49] at H ⊢; exact H)
         have hji49w : (IntKind.i64.wrap (x17_2 - 1)) = ji49 := (i64_w _).trans hji49
         by_cases c50 : 0 ≤ (ji49)
         ·rw [if_pos c50] at H
          have c50b0 : decide (0 ≤ (ji49)) = true := decide_eq_true c50
          clear c50
          by_cases c51 : (ji49) < (x0_2.length : Int)
          ·rw [if_pos c51] at H
           have c51b0 : decide ((ji49) < (x0_2.length : Int)) = true := decide_eq_true c51
           clear c51
           by_cases c52 : 0 ≤ x17_2
           ·rw [if_pos c52] at H
            have c52b0 : decide (0 ≤ x17_2) = true := decide_eq_true c52
            clear c52
            by_cases c53 : x17_2 < (x0_2.length : Int)
            ·rw [if_pos c53] at H
             have c53b0 : decide (x17_2 < (x0_2.length : Int)) = true := decide_eq_true c53
             clear c53
             obtain ⟨y147, hy147⟩ : ∃ y_ : List (S55), y_ = (x0_2.set (x17_2 : Int).toNat (⟨(⟨(rd_T55 x0_2 (ji49)).f0.f0, (rd_T55 x0_2 (ji49)).f0.f1, (rd_T55 x0_2 (ji49)).f0.f2, (rd_T55 x0_2 (ji49)).f0.f3, (rd_T55 x0_2 (ji49)).f0.f4⟩ : S44), (rd_T55 x0_2 (ji49)).f1⟩ : S55)) := ⟨_, rfl⟩
             replace H : (fact_Fact_48.l3 k2 (y147.set ((ji49) : Int).toNat (⟨(⟨(rd_T55 x0_2 x17_2).f0.f0, (rd_T55 x0_2 x17_2).f0.f1, (rd_T55 x0_2 x17_2).f0.f2, (rd_T55 x0_2 x17_2).f0.f3, (rd_T55 x0_2 x17_2).f0.f4⟩ : S44), (rd_T55 x0_2 x17_2).f1⟩ : S55)) x14_1 ji49) = some r := rh hy147 H
             have Ny147 := Aside0.mk hy147; clear hy147
             obtain ⟨y148, hy148⟩ : ∃ y_ : List (S55), y_ = (y147.set ((ji49) : Int).toNat (⟨(⟨(rd_T55 x0_2 x17_2).f0.f0, (rd_T55 x0_2 x17_2).f0.f1, (rd_T55 x0_2 x17_2).f0.f2, (rd_T55 x0_2 x17_2).f0.f3, (rd_T55 x0_2 x17_2).f0.f4⟩ : S44), (rd_T55 x0_2 x17_2).f1⟩ : S55)) := ⟨_, rfl⟩
             replace H : (fact_Fact_48.l3 k2 y148 x14_1 ji49) = some r := rh hy148 H
             have Ny148 := Aside0.mk hy148; clear hy148
             have H' := Aside0.mk H
             clear H
             try go_wp2
             have n0_ := Aside0.mk (Kd.R_drew HO_0.out)
             have n1_ := Aside0.mk (Kept.drew HK.out)
             have n2_ := Aside0.mk (below_drew1 HB.out)
             clear HO_0 HK HB; have HO_0 := n0_; have HK := n1_; have HB := n2_; clear n0_ n1_ n2_
             obtain ⟨Ao57, co57, eo57⟩ := Kd.R_slice HO_0.out
             (first | subst eo57 | (injection eo57 with f1_ f2_ f3_; have f4_ := f1_.symm; have f5_ := f3_.symm; clear f1_ f2_ f3_; subst f4_; subst f5_))
             have p145 : 0 ≤ ((ji49) : Int) := of_decide_eq_true as_
             have q145 : (ji49) < (x0_2.length : Int) := of_decide_eq_true as_
             obtain ⟨ad145, e145, hx145_0, hx145_1, hx145_2, hx145_3, hx145_4, hx145_5⟩ := at_T55 (Kd.R_reads' HO_0.out).2.2 (ji49) p145 q145
             cases e145; replace p145 := eq_true p145; replace q145 := eq_true q145
             have p146 : 0 ≤ (x17_2 : Int) := of_decide_eq_true as_
             have q146 : x17_2 < (x0_2.length : Int) := of_decide_eq_true as_
             obtain ⟨ad146, e146, hx146_0, hx146_1, hx146_2, hx146_3, hx146_4, hx146_5⟩ := at_T55 (Kd.R_reads' HO_0.out).2.2 x17_2 p146 q146
             obtain rfl : ad145 = ad146 := (by injection e146)
             replace p146 := eq_true p146; replace q146 := eq_true q146
             have p54 : 0 ≤ (x17_2 : Int) := of_decide_eq_true as_
             have q54 : (x17_2 : Int) < ((x0_2.length : Int) : Int) := of_decide_eq_true as_
             obtain ⟨go54, co54, eo54, gb54, gl54, cl54, HG54⟩ := Kd.R_form HO_0.out (by omega)
             (first | cases eo54 | (injection eo54 with ea_ en_ ec_; (first | subst ea_ | (injection ea_ with ea_; subst ea_)); subst ec_; clear en_))
             have GB54 := Aside0.mk gb54; have GG54 := Aside0.mk HG54; clear gb54 gl54 HG54
             have HMgo54 := Aside0.mk (show (P0_ go54 ∨ w.heap.size ≤ go54) from (HO_0.out.1 _ rfl))
             (first | simp only [add_plain] at hx145_0 | skip)
             (first | simp only [add_plain] at hx145_1 | skip)
             (first | simp only [add_plain] at hx145_2 | skip)
             (first | simp only [add_plain] at hx145_3 | skip)
             (first | simp only [add_plain] at hx145_4 | skip)
             (first | simp only [add_plain] at hx145_5 | skip)
             (first | simp only [add_plain] at hx146_0 | skip)
             (first | simp only [add_plain] at hx146_1 | skip)
             (first | simp only [add_plain] at hx146_2 | skip)
             (first | simp only [add_plain] at hx146_3 | skip)
             (first | simp only [add_plain] at hx146_4 | skip)
             (first | simp only [add_plain] at hx146_5 | skip)
             obtain ⟨ce54, hcl54, hM54, hcc54, hfr54⟩ := Kd.R_elem HO_0.out z55 (x17_2 : Int) p54 q54
             obtain rfl := k55_openM hM54
             have hx54_0 : World.cell? _ ⟨go54, (x17_2 : Int).toNat * 6, none⟩ = some (.string ((rd_T55 x0_2 x17_2).f0.f0)) := hcc54 0 _ rfl
             have hx54_1 : World.cell? _ ⟨go54, (x17_2 : Int).toNat * 6 + 1, none⟩ = some (.string ((rd_T55 x0_2 x17_2).f0.f1)) := hcc54 1 _ rfl
             have hx54_2 : World.cell? _ ⟨go54, (x17_2 : Int).toNat * 6 + 2, none⟩ = some (.string ((rd_T55 x0_2 x17_2).f0.f2)) := hcc54 2 _ rfl
             have hx54_3 : World.cell? _ ⟨go54, (x17_2 : Int).toNat * 6 + 3, none⟩ = some (.string ((rd_T55 x0_2 x17_2).f0.f3)) := hcc54 3 _ rfl
             have hx54_4 : World.cell? _ ⟨go54, (x17_2 : Int).toNat * 6 + 4, none⟩ = some (.int .i64 ((rd_T55 x0_2 x17_2).f0.f4)) := hcc54 4 _ rfl
             have hx54_5 : World.cell? _ ⟨go54, (x17_2 : Int).toNat * 6 + 5, none⟩ = some (.int .i64 ((rd_T55 x0_2 x17_2).f1)) := hcc54 5 _ rfl
             have hf54_0 : World.frozen? _ ⟨go54, (x17_2 : Int).toNat * 6, none⟩ = false := hfr54 0
             have hf54_1 : World.frozen? _ ⟨go54, (x17_2 : Int).toNat * 6 + 1, none⟩ = false := hfr54 1
             have hf54_2 : World.frozen? _ ⟨go54, (x17_2 : Int).toNat * 6 + 2, none⟩ = false := hfr54 2
             have hf54_3 : World.frozen? _ ⟨go54, (x17_2 : Int).toNat * 6 + 3, none⟩ = false := hfr54 3
             have hf54_4 : World.frozen? _ ⟨go54, (x17_2 : Int).toNat * 6 + 4, none⟩ = false := hfr54 4
             have hf54_5 : World.frozen? _ ⟨go54, (x17_2 : Int).toNat * 6 + 5, none⟩ = false := hfr54 5
             clear hcl54 hcc54 hfr54 hM54; replace p54 := eq_true p54; replace q54 := eq_true q54
             obtain ⟨ce58, hcl58, hM58, hcc58, hfr58⟩ := Kd.R_elem HO_0.out z55 (x17_2 : Int) (of_decide_eq_true as_) (by have h_ : (x17_2 : Int) < ((x0_2.length : Int) : Int) := of_decide_eq_true as_; first | exact h_ | (have e_ := (Kd.R_reads' HO_0.out).1; omega) | simpa using h_)
             obtain rfl := k55_openM hM58
             have HP58 := (Kd.R_seg HO_0.out (x17_2 : Int) (of_decide_eq_true as_) (by have h_ : (x17_2 : Int) < ((x0_2.length : Int) : Int) := of_decide_eq_true as_; first | exact h_ | (have e_ := (Kd.R_reads' HO_0.out).1; omega) | simpa using h_) (seg := [.string ((rd_T55 x0_2 (ji49)).f0.f0), .string ((rd_T55 x0_2 (ji49)).f0.f1), .string ((rd_T55 x0_2 (ji49)).f0.f2), .string ((rd_T55 x0_2 (ji49)).f0.f3), .int .i64 ((rd_T55 x0_2 (ji49)).f0.f4), .int .i64 ((rd_T55 x0_2 (ji49)).f1)]) (j := 0) hcl58 hcc58 (show 6 ≤ 6 from by decide) (x' := (⟨(⟨(rd_T55 x0_2 (ji49)).f0.f0, (rd_T55 x0_2 (ji49)).f0.f1, (rd_T55 x0_2 (ji49)).f0.f2, (rd_T55 x0_2 (ji49)).f0.f3, (rd_T55 x0_2 (ji49)).f0.f4⟩ : S44), (rd_T55 x0_2 (ji49)).f1⟩ : S55)) (k55_mkM _ _ _ (⟨(⟨(rd_T55 x0_2 (ji49)).f0.f0, (rd_T55 x0_2 (ji49)).f0.f1, (rd_T55 x0_2 (ji49)).f0.f2, (rd_T55 x0_2 (ji49)).f0.f3, (rd_T55 x0_2 (ji49)).f0.f4⟩ : S44), (rd_T55 x0_2 (ji49)).f1⟩ : S55) ) (fun _ hk => hk)).1
             rw [← Ny147.out] at HP58
             have HQ58 := Aside0.mk HP58; clear hcl58 hcc58 hfr58 hM58 HP58
             have p55 : 0 ≤ ((ji49) : Int) := of_decide_eq_true as_
             have q55 : ((ji49) : Int) < ((x0_2.length : Int) : Int) := of_decide_eq_true as_
             obtain ⟨ce55, hcl55, hM55, hcc55, hfr55⟩ := Kd.R_elem HQ58.out z55 ((ji49) : Int) p55 q55
             obtain rfl := k55_openM hM55
             have hx55_0 : World.cell? _ ⟨go54, ((ji49) : Int).toNat * 6, none⟩ = some (.string ((rd_T55 y147 (ji49)).f0.f0)) := hcc55 0 _ rfl
             have hx55_1 : World.cell? _ ⟨go54, ((ji49) : Int).toNat * 6 + 1, none⟩ = some (.string ((rd_T55 y147 (ji49)).f0.f1)) := hcc55 1 _ rfl
             have hx55_2 : World.cell? _ ⟨go54, ((ji49) : Int).toNat * 6 + 2, none⟩ = some (.string ((rd_T55 y147 (ji49)).f0.f2)) := hcc55 2 _ rfl
             have hx55_3 : World.cell? _ ⟨go54, ((ji49) : Int).toNat * 6 + 3, none⟩ = some (.string ((rd_T55 y147 (ji49)).f0.f3)) := hcc55 3 _ rfl
             have hx55_4 : World.cell? _ ⟨go54, ((ji49) : Int).toNat * 6 + 4, none⟩ = some (.int .i64 ((rd_T55 y147 (ji49)).f0.f4)) := hcc55 4 _ rfl
             have hx55_5 : World.cell? _ ⟨go54, ((ji49) : Int).toNat * 6 + 5, none⟩ = some (.int .i64 ((rd_T55 y147 (ji49)).f1)) := hcc55 5 _ rfl
             have hf55_0 : World.frozen? _ ⟨go54, ((ji49) : Int).toNat * 6, none⟩ = false := hfr55 0
             have hf55_1 : World.frozen? _ ⟨go54, ((ji49) : Int).toNat * 6 + 1, none⟩ = false := hfr55 1
             have hf55_2 : World.frozen? _ ⟨go54, ((ji49) : Int).toNat * 6 + 2, none⟩ = false := hfr55 2
             have hf55_3 : World.frozen? _ ⟨go54, ((ji49) : Int).toNat * 6 + 3, none⟩ = false := hfr55 3
             have hf55_4 : World.frozen? _ ⟨go54, ((ji49) : Int).toNat * 6 + 4, none⟩ = false := hfr55 4
             have hf55_5 : World.frozen? _ ⟨go54, ((ji49) : Int).toNat * 6 + 5, none⟩ = false := hfr55 5
             clear hcl55 hcc55 hfr55 hM55; replace p55 := eq_true p55; replace q55 := eq_true q55
             obtain ⟨ce59, hcl59, hM59, hcc59, hfr59⟩ := Kd.R_elem HQ58.out z55 ((ji49) : Int) (of_decide_eq_true as_) (by have h_ : ((ji49) : Int) < ((x0_2.length : Int) : Int) := of_decide_eq_true as_; first | exact h_ | (have e_ := (Kd.R_reads' HO_0.out).1; omega) | simpa using h_)
             obtain rfl := k55_openM hM59
             have HP59 := (Kd.R_seg HQ58.out ((ji49) : Int) (of_decide_eq_true as_) (by have h_ : ((ji49) : Int) < ((x0_2.length : Int) : Int) := of_decide_eq_true as_; first | exact h_ | (have e_ := (Kd.R_reads' HO_0.out).1; omega) | simpa using h_) (seg := [.string ((rd_T55 x0_2 x17_2).f0.f0), .string ((rd_T55 x0_2 x17_2).f0.f1), .string ((rd_T55 x0_2 x17_2).f0.f2), .string ((rd_T55 x0_2 x17_2).f0.f3), .int .i64 ((rd_T55 x0_2 x17_2).f0.f4), .int .i64 ((rd_T55 x0_2 x17_2).f1)]) (j := 0) hcl59 hcc59 (show 6 ≤ 6 from by decide) (x' := (⟨(⟨(rd_T55 x0_2 x17_2).f0.f0, (rd_T55 x0_2 x17_2).f0.f1, (rd_T55 x0_2 x17_2).f0.f2, (rd_T55 x0_2 x17_2).f0.f3, (rd_T55 x0_2 x17_2).f0.f4⟩ : S44), (rd_T55 x0_2 x17_2).f1⟩ : S55)) (k55_mkM _ _ _ (⟨(⟨(rd_T55 x0_2 x17_2).f0.f0, (rd_T55 x0_2 x17_2).f0.f1, (rd_T55 x0_2 x17_2).f0.f2, (rd_T55 x0_2 x17_2).f0.f3, (rd_T55 x0_2 x17_2).f0.f4⟩ : S44), (rd_T55 x0_2 x17_2).f1⟩ : S55) ) (fun _ hk => hk)).1
             rw [← Ny148.out] at HP59
             have HQ59 := Aside0.mk HP59; clear hcl59 hcc59 hfr59 hM59 HP59
             refine start_ (n := 18) (S := fun w' => w'.cell? ⟨go54, ((ji49)).toNat * 6, none⟩ = some (.string ((rd_T55 x0_2 (ji49)).f0.f0)) ∧ w'.cell? ⟨go54, ((ji49)).toNat * 6 + 1, none⟩ = some (.string ((rd_T55 x0_2 (ji49)).f0.f1)) ∧ w'.cell? ⟨go54, ((ji49)).toNat * 6 + 2, none⟩ = some (.string ((rd_T55 x0_2 (ji49)).f0.f2)) ∧ w'.cell? ⟨go54, ((ji49)).toNat * 6 + 3, none⟩ = some (.string ((rd_T55 x0_2 (ji49)).f0.f3)) ∧ w'.cell? ⟨go54, ((ji49)).toNat * 6 + 4, none⟩ = some (.int .i64 ((rd_T55 x0_2 (ji49)).f0.f4)) ∧ w'.cell? ⟨go54, ((ji49)).toNat * 6 + 5, none⟩ = some (.int .i64 ((rd_T55 x0_2 (ji49)).f1)) ∧ w'.cell? ⟨go54, ((x17_2).toNat * 6), none⟩ = some (.string ((rd_T55 x0_2 x17_2).f0.f0)) ∧ w'.cell? ⟨go54, ((x17_2).toNat * 6) + 1, none⟩ = some (.string ((rd_T55 x0_2 x17_2).f0.f1)) ∧ w'.cell? ⟨go54, ((x17_2).toNat * 6) + 2, none⟩ = some (.string ((rd_T55 x0_2 x17_2).f0.f2)) ∧ w'.cell? ⟨go54, ((x17_2).toNat * 6) + 3, none⟩ = some (.string ((rd_T55 x0_2 x17_2).f0.f3)) ∧ w'.cell? ⟨go54, ((x17_2).toNat * 6) + 4, none⟩ = some (.int .i64 ((rd_T55 x0_2 x17_2).f0.f4)) ∧ w'.cell? ⟨go54, ((x17_2).toNat * 6) + 5, none⟩ = some (.int .i64 ((rd_T55 x0_2 x17_2).f1))) (ds := [15, 17]) (fl 18 0) (by kernel_rfl) rfl rfl ⟨hx145_0, hx145_1, hx145_2, hx145_3, hx145_4, hx145_5, hx146_0, hx146_1, hx146_2, hx146_3, hx146_4, hx146_5⟩ (fun hHeld => ?_); refine with_tabW fact_Fact_48.tab23 fact_Fact_48.bits23 (fun HT_ HW_ => ?_)
             generalize wr.drew = w56 at HO_0 HK HB GG54 HQ58 HQ59 hf54_0 hf54_1 hf54_2 hf54_3 hf54_4 hf54_5 hf55_0 hf55_1 hf55_2 hf55_3 hf55_4 hf55_5 hx145_0 hx145_1 hx145_2 hx145_3 hx145_4 hx145_5 hx146_0 hx146_1 hx146_2 hx146_3 hx146_4 hx146_5 hx54_0 hx54_1 hx54_2 hx54_3 hx54_4 hx54_5 hx55_0 hx55_1 hx55_2 hx55_3 hx55_4 hx55_5 hHeld ⊢
             refine pu 0 (some 113) (fl 18 1) HT_ ?_
             refine pu 1 (some 114) (fl 18 3) HT_ ?_
             refine pu 2 (some 115) (fl 18 7) HT_ ?_
             refine pu 3 (some 116) (fl 18 15) HT_ ?_
             refine pu 4 (some 117) (fl 18 31) HT_ ?_
             refine pu 5 (some 118) (fl 18 63) HT_ ?_
             refine pu 6 (some 119) (fl 18 127) HT_ ?_
             refine pu 7 (some 120) (fl 18 255) HT_ ?_
             refine pu 8 (some 121) (fl 18 511) HT_ ?_
             refine pu 10 (some 123) (fl 18 1535) HT_ ?_
             refine pu 11 (some 124) (fl 18 3583) HT_ ?_
             refine pu 12 (some 125) (fl 18 7679) HT_ ?_
             refine tu 9 (some 122) (fl 18 8191) HT_ HW_ hHeld ?_
             refine tu 13 (some 126) (fl 18 16383) HT_ HW_ hHeld ?_
             refine pu 14 (some 127) (fl 18 32767) HT_ ?_
             refine last_ (i := 15) (N := none) (fl 18 65535) rfl rfl (one_of HT_.out (by kernel_rfl)) (by decide) (fun K hK => ?_)
             refine skip_ (w1 := ?_) (by rfl) rfl ?_ ?_
             rotate_left
             ·go_simp; rfl
             refine hK.out _ _ ?_
             clear hK K
             refine pu 16 (some 128) (fl 18 131071) HT_ ?_
             refine last_ (i := 17) (N := none) (fl 18 262143) rfl rfl (one_of HT_.out (by kernel_rfl)) (by decide) (fun K hK => ?_)
             refine skip_ (w1 := ?_) (by rfl) rfl ?_ ?_
             rotate_left
             ·obtain ⟨gv_0_0, gy_0_0⟩ := cell?_setCell_some (p := ⟨go54, (x17_2).toNat * 6, none⟩) (x := .string ((rd_T55 x0_2 (ji49)).f0.f0)) hx145_0
              obtain ⟨gv_1_0, gy_1_0⟩ := cell?_setCell_some (p := ⟨go54, (x17_2).toNat * 6, none⟩) (x := .string ((rd_T55 x0_2 (ji49)).f0.f0)) hx145_1
              obtain ⟨gv_1_1, gy_1_1⟩ := cell?_setCell_some (p := ⟨go54, (x17_2).toNat * 6 + 1, none⟩) (x := .string ((rd_T55 x0_2 (ji49)).f0.f1)) gy_1_0
              clear gy_1_0
              obtain ⟨gv_2_0, gy_2_0⟩ := cell?_setCell_some (p := ⟨go54, (x17_2).toNat * 6, none⟩) (x := .string ((rd_T55 x0_2 (ji49)).f0.f0)) hx145_2
              obtain ⟨gv_2_1, gy_2_1⟩ := cell?_setCell_some (p := ⟨go54, (x17_2).toNat * 6 + 1, none⟩) (x := .string ((rd_T55 x0_2 (ji49)).f0.f1)) gy_2_0
              obtain ⟨gv_2_2, gy_2_2⟩ := cell?_setCell_some (p := ⟨go54, (x17_2).toNat * 6 + 2, none⟩) (x := .string ((rd_T55 x0_2 (ji49)).f0.f2)) gy_2_1
              clear gy_2_0 gy_2_1
              obtain ⟨gv_3_0, gy_3_0⟩ := cell?_setCell_some (p := ⟨go54, (x17_2).toNat * 6, none⟩) (x := .string ((rd_T55 x0_2 (ji49)).f0.f0)) hx145_3
              obtain ⟨gv_3_1, gy_3_1⟩ := cell?_setCell_some (p := ⟨go54, (x17_2).toNat * 6 + 1, none⟩) (x := .string ((rd_T55 x0_2 (ji49)).f0.f1)) gy_3_0
              obtain ⟨gv_3_2, gy_3_2⟩ := cell?_setCell_some (p := ⟨go54, (x17_2).toNat * 6 + 2, none⟩) (x := .string ((rd_T55 x0_2 (ji49)).f0.f2)) gy_3_1
              obtain ⟨gv_3_3, gy_3_3⟩ := cell?_setCell_some (p := ⟨go54, (x17_2).toNat * 6 + 3, none⟩) (x := .string ((rd_T55 x0_2 (ji49)).f0.f3)) gy_3_2
              clear gy_3_0 gy_3_1 gy_3_2
              obtain ⟨gv_4_0, gy_4_0⟩ := cell?_setCell_some (p := ⟨go54, (x17_2).toNat * 6, none⟩) (x := .string ((rd_T55 x0_2 (ji49)).f0.f0)) hx145_4
              obtain ⟨gv_4_1, gy_4_1⟩ := cell?_setCell_some (p := ⟨go54, (x17_2).toNat * 6 + 1, none⟩) (x := .string ((rd_T55 x0_2 (ji49)).f0.f1)) gy_4_0
              obtain ⟨gv_4_2, gy_4_2⟩ := cell?_setCell_some (p := ⟨go54, (x17_2).toNat * 6 + 2, none⟩) (x := .string ((rd_T55 x0_2 (ji49)).f0.f2)) gy_4_1
              obtain ⟨gv_4_3, gy_4_3⟩ := cell?_setCell_some (p := ⟨go54, (x17_2).toNat * 6 + 3, none⟩) (x := .string ((rd_T55 x0_2 (ji49)).f0.f3)) gy_4_2
              obtain ⟨gv_4_4, gy_4_4⟩ := cell?_setCell_some (p := ⟨go54, (x17_2).toNat * 6 + 4, none⟩) (x := .int .i64 ((rd_T55 x0_2 (ji49)).f0.f4)) gy_4_3
              clear gy_4_0 gy_4_1 gy_4_2 gy_4_3
              obtain ⟨gv_5_0, gy_5_0⟩ := cell?_setCell_some (p := ⟨go54, (x17_2).toNat * 6, none⟩) (x := .string ((rd_T55 x0_2 (ji49)).f0.f0)) hx145_5
              obtain ⟨gv_5_1, gy_5_1⟩ := cell?_setCell_some (p := ⟨go54, (x17_2).toNat * 6 + 1, none⟩) (x := .string ((rd_T55 x0_2 (ji49)).f0.f1)) gy_5_0
              obtain ⟨gv_5_2, gy_5_2⟩ := cell?_setCell_some (p := ⟨go54, (x17_2).toNat * 6 + 2, none⟩) (x := .string ((rd_T55 x0_2 (ji49)).f0.f2)) gy_5_1
              obtain ⟨gv_5_3, gy_5_3⟩ := cell?_setCell_some (p := ⟨go54, (x17_2).toNat * 6 + 3, none⟩) (x := .string ((rd_T55 x0_2 (ji49)).f0.f3)) gy_5_2
              obtain ⟨gv_5_4, gy_5_4⟩ := cell?_setCell_some (p := ⟨go54, (x17_2).toNat * 6 + 4, none⟩) (x := .int .i64 ((rd_T55 x0_2 (ji49)).f0.f4)) gy_5_3
              obtain ⟨gv_5_5, gy_5_5⟩ := cell?_setCell_some (p := ⟨go54, (x17_2).toNat * 6 + 5, none⟩) (x := .int .i64 ((rd_T55 x0_2 (ji49)).f1)) gy_5_4
              clear gy_5_0 gy_5_1 gy_5_2 gy_5_3 gy_5_4
              obtain ⟨_, _, _, _, gfr_⟩ := Kd.R_elem HO_0.out z55 ((ji49) : Int) (of_eq_true p145) (of_eq_true q145)
              have gf_0 : World.frozen? _ ⟨go54, (ji49).toNat * 6, none⟩ = false := gfr_ 0
              have gf_1 : World.frozen? _ ⟨go54, (ji49).toNat * 6 + 1, none⟩ = false := gfr_ 1
              have gf_2 : World.frozen? _ ⟨go54, (ji49).toNat * 6 + 2, none⟩ = false := gfr_ 2
              have gf_3 : World.frozen? _ ⟨go54, (ji49).toNat * 6 + 3, none⟩ = false := gfr_ 3
              have gf_4 : World.frozen? _ ⟨go54, (ji49).toNat * 6 + 4, none⟩ = false := gfr_ 4
              have gf_5 : World.frozen? _ ⟨go54, (ji49).toNat * 6 + 5, none⟩ = false := gfr_ 5
              clear gfr_; go_simp; rfl
             refine hK.out _ _ ?_
             clear hK K
             refine done_ (done_of HT_.out (by kernel_rfl)) ?_
             try go_wp2
             go_roundg k2
             case measure => have := HK1.out; have := HK2.out; omega
             case rel => exact ⟨(y148), (ji49), (by first | rfl | (simp; done) | (simp only [← hji49] <;> (first | rfl | simp)) | (simp [*]; done)), H', ⟨by have := HK1.out; have := HK2.out; omega⟩, ⟨kr HQ59⟩, ⟨by repeat (first | (with_reducible first | exact HK.out | apply Kept.alloc | apply Kept.drewN | apply Kept.drew | refine Kept.setCell ?_ HMgo54.out _ | refine Kept.setCell ?_ HMgo54.out _ | refine Kept.setCell ?_ HMgo54.out _ | refine Kept.setCell ?_ HMgo54.out _ | refine Kept.setCell ?_ HMgo54.out _ | refine Kept.setCell ?_ HMgo54.out _ | refine Kept.setCell ?_ HMgo54.out _ | refine Kept.setCell ?_ HMgo54.out _ | refine Kept.setCell ?_ HMgo54.out _ | refine Kept.setCell ?_ HMgo54.out _ | refine Kept.setCell ?_ HMgo54.out _ | refine Kept.setCell ?_ HMgo54.out _) | exact HK.out)⟩, ⟨by repeat (first | (with_reducible first | exact HB.out | apply below_alloc | apply pw_below_drewN | apply below_drew1 | refine below_set ?_ GB54.out | refine below_set ?_ GB54.out | refine below_set ?_ GB54.out | refine below_set ?_ GB54.out | refine below_set ?_ GB54.out | refine below_set ?_ GB54.out | refine below_set ?_ GB54.out | refine below_set ?_ GB54.out | refine below_set ?_ GB54.out | refine below_set ?_ GB54.out | refine below_set ?_ GB54.out | refine below_set ?_ GB54.out) | exact HB.out)⟩⟩
            ·rw [if_neg c53] at H
             exact absurd H (by simp)
           ·rw [if_neg c52] at H
            exact absurd H (by simp)
          ·rw [if_neg c51] at H
           exact absurd H (by simp)
         ·rw [if_neg c50] at H
          exact absurd H (by simp)
        ·rw [if_neg c48] at H
         have c48b0 : decide (x14_1 < x17_2) = false := decide_eq_false c48
         clear c48
         obtain rfl := Option.some.inj H
         go_wp2
         first | go_end0 | ((try simp only [Exit.inBlock, Exit.then]); refine bodyPost_ret (results_none rfl _ _ _) rfl ?_)
         exact ⟨re_, kr HO_0, by repeat (first | (with_reducible first | exact HB.out | apply below_alloc | apply pw_below_drewN | apply below_drew1) | exact HB.out), kp_⟩
  ·exact absurd hcB.out c33
end Go.Proofs.Ytdckeflggcefbaa.Y
