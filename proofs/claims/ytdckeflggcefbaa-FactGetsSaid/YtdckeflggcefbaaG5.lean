/- Plain Lean functions with the answers of the program's functions, and proofs that the machine's calls come to them; lines written by a program for this claim. No conditions. -/
import Derived.Test.YtdckeflggcefbaaG1
import Derived.Test.YtdckeflggcefbaaG4
namespace Go.Proofs.Ytdckeflggcefbaa.Y
open Go.RowKit Go.Proofs.YtdckeflggcefbaaW.PrintWords Go.Proofs.YtdckeflggcefbaaW.PrintLast Go.Proofs.YtdckeflggcefbaaW.PrintMore
attribute [local go_sem] max2_int min2_int max_two min_two max_three min_three max_four min_four
set_option linter.unusedVariables false
set_option linter.unusedSimpArgs false

set_option maxHeartbeats 60000000 in
set_option maxRecDepth 100000 in
theorem fact_Fact_48.partA (k : Nat) (ih : ∀ m, m < k + 1 → fact_Fact_48.Said m) (P0_ : Nat → Prop) (u9000_ : Value) (l0 : List (S55)) (a1 : Int) (a2 : Int) (a3 : Int)  (r : List (S55)) (w0 w : World) (hB : Below w0.heap.size w0 w) (ho0 : Kd.R k55 55 w w0.heap.size P0_ u9000_ l0) (h : fact_Fact_48.f (k + 1) l0 a1 a2 a3 = some r) (hcA : Aside0 ((wrap64 (a2 - a1)) = 1)) :
  Calls Try.prog 48 #[u9000_, .int .i64 a1, .int .i64 a2, .int .i64 a3, .func (.func 34) #[] #[]] w fun e w' => e = .returned (.tuple #[]) ∧ Kd.R k55 55 w' w0.heap.size (fun k_ => (P0_ k_ ∨ w.heap.size ≤ k_)) u9000_ r ∧ Below w0.heap.size w0 w' ∧ Kept w w' (fun k_ => P0_ k_) := by
 simp only [fact_Fact_48.f] at h
 have hu55 := Try.underlying55
 have HO0 := Aside0.mk (show Kd.R k55 55 w w0.heap.size (fun k_ => (P0_ k_ ∨ w.heap.size ≤ k_)) u9000_ l0 from Kd.R_mono ho0 (fun k_ hk => (.inl hk)))
 have HK := Aside0.mk (Kept.refl w (fun k_ => P0_ k_))
 have HW0 := Aside0.mk hB.size
 have HB := Aside0.mk hB; clear hB
 have H : (if (wrap64 (a2 - a1)) = 1 then (fact_Fact_48.l0 k l0 a1 a2 a3) else (if (wrap64 (a3 - a2)) = 1 then (fact_Fact_48.l2 k l0 a2 a1 a2) else (if a2 > (wrap64 ((IntKind.u64.wrap (wrap64 (a1 + a3))) / 2)) then (fact_Fact_48.j4 k l0 a1 a2 a3 (wrap64 ((IntKind.u64.wrap (wrap64 (a1 + a3))) / 2)) (wrap64 ((wrap64 ((IntKind.u64.wrap (wrap64 (a1 + a3))) / 2)) + a2)) (wrap64 ((wrap64 ((wrap64 ((IntKind.u64.wrap (wrap64 (a1 + a3))) / 2)) + a2)) - a3)) (wrap64 ((IntKind.u64.wrap (wrap64 (a1 + a3))) / 2))) else (fact_Fact_48.j4 k l0 a1 a2 a3 (wrap64 ((IntKind.u64.wrap (wrap64 (a1 + a3))) / 2)) (wrap64 ((wrap64 ((IntKind.u64.wrap (wrap64 (a1 + a3))) / 2)) + a2)) a1 a2)))) = some r := h
 clear h
 by_cases c6 : (wrap64 (a2 - a1)) = 1
 ·rw [if_pos c6] at H
  have c6b0 : ((wrap64 (a2 - a1)) == 1) = true := beq_iff_eq.mpr c6
  have c6b1 : ((wrap64 (a2 - a1)) != 1) = false := bne_eq_false_iff_eq.mpr c6
  clear c6
  have H' := Aside0.mk H
  clear H
  go_enter Try.func48, Try.ntmps48
  go_wp2
  go_loopg [10, 11] k (fun kq v10 v11 w' => ∃ (x10_1 : Int) (x11_1 : Int), v10 = .int .i64 x10_1 ∧ v11 = .int .i64 x11_1 ∧ Aside0 (fact_Fact_48.l0 kq l0 a1 x10_1 x11_1 = some r) ∧ Aside0 (kq ≤ k) ∧ Aside0 (Kd.R k55 55 w' w0.heap.size (fun k_ => (P0_ k_ ∨ w.heap.size ≤ k_)) u9000_ l0) ∧ Aside0 (Kept w w' (fun k_ => P0_ k_)) ∧ Aside0 (Below w0.heap.size w0 w'))
  case atStart => exact ⟨(a2), (a3), rs_, rs_, H', ⟨Nat.le_refl _⟩, ⟨kr HO0⟩, ⟨kp_⟩, ⟨bw⟩⟩
  case round =>
   clear H'
   (try clear p2); (try clear c4); (try clear c6); (try clear c6b0); (try clear c6b1); (try clear p6)
   obtain ⟨x10_1, x11_1, rfl, rfl, HA, HK1, HO_0, HK, HB⟩ := hrel
   cases gk with
   | zero => exact absurd HA.out (by simp [fact_Fact_48.l0])
   | succ k1 =>
    have H := HA.out; clear HA
    simp only [fact_Fact_48.l0] at H
    by_cases c7 : x10_1 < x11_1
    ·rw [if_pos c7] at H
     have c7b0 : decide (x10_1 < x11_1) = true := decide_eq_true c7
     clear c7
     obtain ⟨ji8, hji8⟩ : ∃ j_ : Int, (wrap64 ((IntKind.u64.wrap (wrap64 (x10_1 + x11_1))) / 2)) = j_ := ⟨_, rfl⟩
     replace H : (if 0 ≤ (ji8) then (if (ji8) < (l0.length : Int) then (if 0 ≤ a1 then (if a1 < (l0.length : Int) then ((fact_Of_1.f k1 ((rd_T55 l0 (ji8)).f0.f0) ((rd_T55 l0 (ji8)).f0.f1) ((rd_T55 l0 (ji8)).f0.f2) ((rd_T55 l0 (ji8)).f0.f3) ((rd_T55 l0 (ji8)).f0.f4) ((rd_T55 l0 (ji8)).f1) ((rd_T55 l0 a1).f0.f0) ((rd_T55 l0 a1).f0.f1) ((rd_T55 l0 a1).f0.f2) ((rd_T55 l0 a1).f0.f3) ((rd_T55 l0 a1).f0.f4) ((rd_T55 l0 a1).f1)).bind fun t137 => (if t137 < 0 then (fact_Fact_48.l0 k1 l0 a1 (wrap64 ((ji8) + 1)) x11_1) else (fact_Fact_48.l0 k1 l0 a1 x10_1 ji8))) else (none)) else (none)) else (none)) else (none)) = some r := by first | (rw [hji8] at H; exact H) | (simp only [hji8] at H ⊢; exact H)
     have hji8w : (IntKind.i64.wrap ((IntKind.u64.wrap (wrap64 (x10_1 + x11_1))) / 2)) = ji8 := (i64_w _).trans hji8
     by_cases c9 : 0 ≤ (ji8)
     ·rw [if_pos c9] at H
      have c9b0 : decide (0 ≤ (ji8)) = true := decide_eq_true c9
      clear c9
      by_cases c10 : (ji8) < (l0.length : Int)
      ·rw [if_pos c10] at H
       have c10b0 : decide ((ji8) < (l0.length : Int)) = true := decide_eq_true c10
       clear c10
       by_cases c11 : 0 ≤ a1
       ·rw [if_pos c11] at H
        have c11b0 : decide (0 ≤ a1) = true := decide_eq_true c11
        clear c11
        by_cases c12 : a1 < (l0.length : Int)
        ·rw [if_pos c12] at H
         have c12b0 : decide (a1 < (l0.length : Int)) = true := decide_eq_true c12
         clear c12
         replace H := Option.bind_eq_some_iff.mp H
         obtain ⟨t137, A130, H⟩ := H
         replace H : (if t137 < 0 then (fact_Fact_48.l0 k1 l0 a1 (wrap64 ((ji8) + 1)) x11_1) else (fact_Fact_48.l0 k1 l0 a1 x10_1 ji8)) = some r := H
         have A13 := Aside0.mk A130; clear A130
         by_cases c14 : t137 < 0
         ·rw [if_pos c14] at H
          have c14b0 : decide (t137 < 0) = true := decide_eq_true c14
          clear c14
          have H' := Aside0.mk H
          clear H
          try go_wp2
          have n0_ := Aside0.mk (Kd.R_drew HO_0.out)
          have n1_ := Aside0.mk (Kept.drew HK.out)
          have n2_ := Aside0.mk (below_drew1 HB.out)
          clear HO_0 HK HB; have HO_0 := n0_; have HK := n1_; have HB := n2_; clear n0_ n1_ n2_
          obtain ⟨Ao16, co16, eo16⟩ := Kd.R_slice HO_0.out
          (first | subst eo16 | (injection eo16 with f1_ f2_ f3_; have f4_ := f1_.symm; have f5_ := f3_.symm; clear f1_ f2_ f3_; subst f4_; subst f5_))
          have p135 : 0 ≤ ((ji8) : Int) := of_decide_eq_true as_
          have q135 : (ji8) < (l0.length : Int) := of_decide_eq_true as_
          obtain ⟨ad135, e135, hx135_0, hx135_1, hx135_2, hx135_3, hx135_4, hx135_5⟩ := at_T55 (Kd.R_reads' HO_0.out).2.2 (ji8) p135 q135
          cases e135; replace p135 := eq_true p135; replace q135 := eq_true q135
          have p136 : 0 ≤ (a1 : Int) := of_decide_eq_true as_
          have q136 : a1 < (l0.length : Int) := of_decide_eq_true as_
          obtain ⟨ad136, e136, hx136_0, hx136_1, hx136_2, hx136_3, hx136_4, hx136_5⟩ := at_T55 (Kd.R_reads' HO_0.out).2.2 a1 p136 q136
          obtain rfl : ad135 = ad136 := (by injection e136)
          replace p136 := eq_true p136; replace q136 := eq_true q136
          refine start_ (n := 11) (S := fun w' => w'.cell? (ad135.add (((ji8)).toNat * 6)) = some (.string ((rd_T55 l0 (ji8)).f0.f0)) ∧ w'.cell? ⟨(ad135.add (((ji8)).toNat * 6)).block, (ad135.add (((ji8)).toNat * 6)).off + 1, none⟩ = some (.string ((rd_T55 l0 (ji8)).f0.f1)) ∧ w'.cell? ⟨(ad135.add (((ji8)).toNat * 6)).block, (ad135.add (((ji8)).toNat * 6)).off + 2, none⟩ = some (.string ((rd_T55 l0 (ji8)).f0.f2)) ∧ w'.cell? ⟨(ad135.add (((ji8)).toNat * 6)).block, (ad135.add (((ji8)).toNat * 6)).off + 3, none⟩ = some (.string ((rd_T55 l0 (ji8)).f0.f3)) ∧ w'.cell? ⟨(ad135.add (((ji8)).toNat * 6)).block, (ad135.add (((ji8)).toNat * 6)).off + 4, none⟩ = some (.int .i64 ((rd_T55 l0 (ji8)).f0.f4)) ∧ w'.cell? ⟨(ad135.add (((ji8)).toNat * 6)).block, (ad135.add (((ji8)).toNat * 6)).off + 5, none⟩ = some (.int .i64 ((rd_T55 l0 (ji8)).f1)) ∧ w'.cell? (ad135.add ((a1).toNat * 6)) = some (.string ((rd_T55 l0 a1).f0.f0)) ∧ w'.cell? ⟨(ad135.add ((a1).toNat * 6)).block, (ad135.add ((a1).toNat * 6)).off + 1, none⟩ = some (.string ((rd_T55 l0 a1).f0.f1)) ∧ w'.cell? ⟨(ad135.add ((a1).toNat * 6)).block, (ad135.add ((a1).toNat * 6)).off + 2, none⟩ = some (.string ((rd_T55 l0 a1).f0.f2)) ∧ w'.cell? ⟨(ad135.add ((a1).toNat * 6)).block, (ad135.add ((a1).toNat * 6)).off + 3, none⟩ = some (.string ((rd_T55 l0 a1).f0.f3)) ∧ w'.cell? ⟨(ad135.add ((a1).toNat * 6)).block, (ad135.add ((a1).toNat * 6)).off + 4, none⟩ = some (.int .i64 ((rd_T55 l0 a1).f0.f4)) ∧ w'.cell? ⟨(ad135.add ((a1).toNat * 6)).block, (ad135.add ((a1).toNat * 6)).off + 5, none⟩ = some (.int .i64 ((rd_T55 l0 a1).f1))) (ds := []) (fl 11 0) (by kernel_rfl) rfl rfl ⟨hx135_0, hx135_1, hx135_2, hx135_3, hx135_4, hx135_5, hx136_0, hx136_1, hx136_2, hx136_3, hx136_4, hx136_5⟩ (fun hHeld => ?_); refine with_tabW fact_Fact_48.tab5 fact_Fact_48.bits5 (fun HT_ HW_ => ?_)
          generalize wr.drew = w15 at HO_0 HK HB hx135_0 hx135_1 hx135_2 hx135_3 hx135_4 hx135_5 hx136_0 hx136_1 hx136_2 hx136_3 hx136_4 hx136_5 hHeld ⊢
          refine pu 0 (some 40) (fl 11 1) HT_ ?_
          refine pu 1 (some 41) (fl 11 3) HT_ ?_
          refine pu 2 (some 42) (fl 11 7) HT_ ?_
          refine pu 3 (some 43) (fl 11 15) HT_ ?_
          refine pu 5 (some 45) (fl 11 47) HT_ ?_
          refine pu 6 (some 46) (fl 11 111) HT_ ?_
          refine pu 7 (some 47) (fl 11 239) HT_ ?_
          refine tu 4 (some 44) (fl 11 255) HT_ HW_ hHeld ?_
          refine tu 8 (some 48) (fl 11 511) HT_ HW_ hHeld ?_
          refine one_ (i := 9) (N := some 49) (fl 11 1023) rfl rfl (one_of HT_.out (by kernel_rfl)) (by decide) (fun K hK => ?_)
          refine goesV_ Try.func34 (by kernel_rfl) rfl #[.agg #[.string ((rd_T55 l0 (ji8)).f0.f0), .string ((rd_T55 l0 (ji8)).f0.f1), .string ((rd_T55 l0 (ji8)).f0.f2), .string ((rd_T55 l0 (ji8)).f0.f3), .int .i64 ((rd_T55 l0 (ji8)).f0.f4), .int .i64 ((rd_T55 l0 (ji8)).f1)], .agg #[.string ((rd_T55 l0 a1).f0.f0), .string ((rd_T55 l0 a1).f0.f1), .string ((rd_T55 l0 a1).f0.f2), .string ((rd_T55 l0 a1).f0.f3), .int .i64 ((rd_T55 l0 a1).f0.f4), .int .i64 ((rd_T55 l0 a1).f1)]] (by rfl) rfl rfl rfl (by (try simp only [List.map_toArray, List.map_cons, List.map_nil]); first | done | (simp only [hji8]; rfl) | rfl | (simp only [List.length_drop, List.length_take]; rfl)) ?_
          with_reducible refine (fact_Of_1.calls k1 ((rd_T55 l0 (ji8)).f0.f0) ((rd_T55 l0 (ji8)).f0.f1) ((rd_T55 l0 (ji8)).f0.f2) ((rd_T55 l0 (ji8)).f0.f3) ((rd_T55 l0 (ji8)).f0.f4) ((rd_T55 l0 (ji8)).f1) ((rd_T55 l0 a1).f0.f0) ((rd_T55 l0 a1).f0.f1) ((rd_T55 l0 a1).f0.f2) ((rd_T55 l0 a1).f0.f3) ((rd_T55 l0 a1).f0.f4) ((rd_T55 l0 a1).f1) t137 _ A13.out).mono ?_
          rintro e w17 ⟨rfl, hb⟩
          have HS0_ := cb2 hb hHeld.1
          have HS1_ := cb2 hb hHeld.2.1
          have HS2_ := cb2 hb hHeld.2.2.1
          have HS3_ := cb2 hb hHeld.2.2.2.1
          have HS4_ := cb2 hb hHeld.2.2.2.2.1
          have HS5_ := cb2 hb hHeld.2.2.2.2.2.1
          have HS6_ := cb2 hb hHeld.2.2.2.2.2.2.1
          have HS7_ := cb2 hb hHeld.2.2.2.2.2.2.2.1
          have HS8_ := cb2 hb hHeld.2.2.2.2.2.2.2.2.1
          have HS9_ := cb2 hb hHeld.2.2.2.2.2.2.2.2.2.1
          have HS10_ := cb2 hb hHeld.2.2.2.2.2.2.2.2.2.2.1
          have HS11_ := cb2 hb hHeld.2.2.2.2.2.2.2.2.2.2.2
          refine ⟨_, rfl, ?_⟩
          have n0_ := Aside0.mk (Kd.R_below (kr HO_0) hb)
          have n1_ := Aside0.mk (Kept.below (S := (fun k_ => P0_ k_)) kp_ hb)
          have n2_ := Aside0.mk (below_step bw hb)
          clear HO_0 HK HB; have HO_0 := n0_; have HK := n1_; have HB := n2_; clear n0_ n1_ n2_
          (try clear hb)
          (try clear hb2)
          (try clear hk)
          (try clear hi)
          refine hK.out _ _ ⟨HS0_, HS1_, HS2_, HS3_, HS4_, HS5_, HS6_, HS7_, HS8_, HS9_, HS10_, HS11_⟩ (fun hHeld => ?_)
          clear hK K
          refine norm_ (a' := ?_) ?_ ?_
          rotate_left
          ·show Act.put _ (some 49) _ = _
           simp only [Act.put, List.setIfInBounds_toArray, List.set_cons_zero, List.set_cons_succ, i64_w, i32_w]
           rfl
          refine pu 10 (some 50) (fl 11 2047) HT_ ?_
          refine done_ (done_of HT_.out (by kernel_rfl)) ?_
          try go_wp2
          go_roundg k1
          case measure => have := HK1.out; omega
          case rel => exact ⟨(wrap64 ((ji8) + 1)), (x11_1), (by first | rfl | (simp; done) | (simp only [← hji8] <;> (first | rfl | simp)) | (simp [*]; done)), rs_, H', ⟨by have := HK1.out; omega⟩, ⟨kr HO_0⟩, ⟨kp_⟩, ⟨bw⟩⟩
         ·rw [if_neg c14] at H
          have c14b0 : decide (t137 < 0) = false := decide_eq_false c14
          clear c14
          have H' := Aside0.mk H
          clear H
          try go_wp2
          have n0_ := Aside0.mk (Kd.R_drew HO_0.out)
          have n1_ := Aside0.mk (Kept.drew HK.out)
          have n2_ := Aside0.mk (below_drew1 HB.out)
          clear HO_0 HK HB; have HO_0 := n0_; have HK := n1_; have HB := n2_; clear n0_ n1_ n2_
          obtain ⟨Ao19, co19, eo19⟩ := Kd.R_slice HO_0.out
          (first | subst eo19 | (injection eo19 with f1_ f2_ f3_; have f4_ := f1_.symm; have f5_ := f3_.symm; clear f1_ f2_ f3_; subst f4_; subst f5_))
          have p135 : 0 ≤ ((ji8) : Int) := of_decide_eq_true as_
          have q135 : (ji8) < (l0.length : Int) := of_decide_eq_true as_
          obtain ⟨ad135, e135, hx135_0, hx135_1, hx135_2, hx135_3, hx135_4, hx135_5⟩ := at_T55 (Kd.R_reads' HO_0.out).2.2 (ji8) p135 q135
          cases e135; replace p135 := eq_true p135; replace q135 := eq_true q135
          have p136 : 0 ≤ (a1 : Int) := of_decide_eq_true as_
          have q136 : a1 < (l0.length : Int) := of_decide_eq_true as_
          obtain ⟨ad136, e136, hx136_0, hx136_1, hx136_2, hx136_3, hx136_4, hx136_5⟩ := at_T55 (Kd.R_reads' HO_0.out).2.2 a1 p136 q136
          obtain rfl : ad135 = ad136 := (by injection e136)
          replace p136 := eq_true p136; replace q136 := eq_true q136
          refine start_ (n := 11) (S := fun w' => w'.cell? (ad135.add (((ji8)).toNat * 6)) = some (.string ((rd_T55 l0 (ji8)).f0.f0)) ∧ w'.cell? ⟨(ad135.add (((ji8)).toNat * 6)).block, (ad135.add (((ji8)).toNat * 6)).off + 1, none⟩ = some (.string ((rd_T55 l0 (ji8)).f0.f1)) ∧ w'.cell? ⟨(ad135.add (((ji8)).toNat * 6)).block, (ad135.add (((ji8)).toNat * 6)).off + 2, none⟩ = some (.string ((rd_T55 l0 (ji8)).f0.f2)) ∧ w'.cell? ⟨(ad135.add (((ji8)).toNat * 6)).block, (ad135.add (((ji8)).toNat * 6)).off + 3, none⟩ = some (.string ((rd_T55 l0 (ji8)).f0.f3)) ∧ w'.cell? ⟨(ad135.add (((ji8)).toNat * 6)).block, (ad135.add (((ji8)).toNat * 6)).off + 4, none⟩ = some (.int .i64 ((rd_T55 l0 (ji8)).f0.f4)) ∧ w'.cell? ⟨(ad135.add (((ji8)).toNat * 6)).block, (ad135.add (((ji8)).toNat * 6)).off + 5, none⟩ = some (.int .i64 ((rd_T55 l0 (ji8)).f1)) ∧ w'.cell? (ad135.add ((a1).toNat * 6)) = some (.string ((rd_T55 l0 a1).f0.f0)) ∧ w'.cell? ⟨(ad135.add ((a1).toNat * 6)).block, (ad135.add ((a1).toNat * 6)).off + 1, none⟩ = some (.string ((rd_T55 l0 a1).f0.f1)) ∧ w'.cell? ⟨(ad135.add ((a1).toNat * 6)).block, (ad135.add ((a1).toNat * 6)).off + 2, none⟩ = some (.string ((rd_T55 l0 a1).f0.f2)) ∧ w'.cell? ⟨(ad135.add ((a1).toNat * 6)).block, (ad135.add ((a1).toNat * 6)).off + 3, none⟩ = some (.string ((rd_T55 l0 a1).f0.f3)) ∧ w'.cell? ⟨(ad135.add ((a1).toNat * 6)).block, (ad135.add ((a1).toNat * 6)).off + 4, none⟩ = some (.int .i64 ((rd_T55 l0 a1).f0.f4)) ∧ w'.cell? ⟨(ad135.add ((a1).toNat * 6)).block, (ad135.add ((a1).toNat * 6)).off + 5, none⟩ = some (.int .i64 ((rd_T55 l0 a1).f1))) (ds := []) (fl 11 0) (by kernel_rfl) rfl rfl ⟨hx135_0, hx135_1, hx135_2, hx135_3, hx135_4, hx135_5, hx136_0, hx136_1, hx136_2, hx136_3, hx136_4, hx136_5⟩ (fun hHeld => ?_); refine with_tabW fact_Fact_48.tab5 fact_Fact_48.bits5 (fun HT_ HW_ => ?_)
          generalize wr.drew = w18 at HO_0 HK HB hx135_0 hx135_1 hx135_2 hx135_3 hx135_4 hx135_5 hx136_0 hx136_1 hx136_2 hx136_3 hx136_4 hx136_5 hHeld ⊢
          refine pu 0 (some 40) (fl 11 1) HT_ ?_
          refine pu 1 (some 41) (fl 11 3) HT_ ?_
          refine pu 2 (some 42) (fl 11 7) HT_ ?_
          refine pu 3 (some 43) (fl 11 15) HT_ ?_
          refine pu 5 (some 45) (fl 11 47) HT_ ?_
          refine pu 6 (some 46) (fl 11 111) HT_ ?_
          refine pu 7 (some 47) (fl 11 239) HT_ ?_
          refine tu 4 (some 44) (fl 11 255) HT_ HW_ hHeld ?_
          refine tu 8 (some 48) (fl 11 511) HT_ HW_ hHeld ?_
          refine one_ (i := 9) (N := some 49) (fl 11 1023) rfl rfl (one_of HT_.out (by kernel_rfl)) (by decide) (fun K hK => ?_)
          refine goesV_ Try.func34 (by kernel_rfl) rfl #[.agg #[.string ((rd_T55 l0 (ji8)).f0.f0), .string ((rd_T55 l0 (ji8)).f0.f1), .string ((rd_T55 l0 (ji8)).f0.f2), .string ((rd_T55 l0 (ji8)).f0.f3), .int .i64 ((rd_T55 l0 (ji8)).f0.f4), .int .i64 ((rd_T55 l0 (ji8)).f1)], .agg #[.string ((rd_T55 l0 a1).f0.f0), .string ((rd_T55 l0 a1).f0.f1), .string ((rd_T55 l0 a1).f0.f2), .string ((rd_T55 l0 a1).f0.f3), .int .i64 ((rd_T55 l0 a1).f0.f4), .int .i64 ((rd_T55 l0 a1).f1)]] (by rfl) rfl rfl rfl (by (try simp only [List.map_toArray, List.map_cons, List.map_nil]); first | done | (simp only [hji8]; rfl) | rfl | (simp only [List.length_drop, List.length_take]; rfl)) ?_
          with_reducible refine (fact_Of_1.calls k1 ((rd_T55 l0 (ji8)).f0.f0) ((rd_T55 l0 (ji8)).f0.f1) ((rd_T55 l0 (ji8)).f0.f2) ((rd_T55 l0 (ji8)).f0.f3) ((rd_T55 l0 (ji8)).f0.f4) ((rd_T55 l0 (ji8)).f1) ((rd_T55 l0 a1).f0.f0) ((rd_T55 l0 a1).f0.f1) ((rd_T55 l0 a1).f0.f2) ((rd_T55 l0 a1).f0.f3) ((rd_T55 l0 a1).f0.f4) ((rd_T55 l0 a1).f1) t137 _ A13.out).mono ?_
          rintro e w20 ⟨rfl, hb⟩
          have HS0_ := cb2 hb hHeld.1
          have HS1_ := cb2 hb hHeld.2.1
          have HS2_ := cb2 hb hHeld.2.2.1
          have HS3_ := cb2 hb hHeld.2.2.2.1
          have HS4_ := cb2 hb hHeld.2.2.2.2.1
          have HS5_ := cb2 hb hHeld.2.2.2.2.2.1
          have HS6_ := cb2 hb hHeld.2.2.2.2.2.2.1
          have HS7_ := cb2 hb hHeld.2.2.2.2.2.2.2.1
          have HS8_ := cb2 hb hHeld.2.2.2.2.2.2.2.2.1
          have HS9_ := cb2 hb hHeld.2.2.2.2.2.2.2.2.2.1
          have HS10_ := cb2 hb hHeld.2.2.2.2.2.2.2.2.2.2.1
          have HS11_ := cb2 hb hHeld.2.2.2.2.2.2.2.2.2.2.2
          refine ⟨_, rfl, ?_⟩
          have n0_ := Aside0.mk (Kd.R_below (kr HO_0) hb)
          have n1_ := Aside0.mk (Kept.below (S := (fun k_ => P0_ k_)) kp_ hb)
          have n2_ := Aside0.mk (below_step bw hb)
          clear HO_0 HK HB; have HO_0 := n0_; have HK := n1_; have HB := n2_; clear n0_ n1_ n2_
          (try clear hb)
          (try clear hb2)
          (try clear hk)
          (try clear hi)
          refine hK.out _ _ ⟨HS0_, HS1_, HS2_, HS3_, HS4_, HS5_, HS6_, HS7_, HS8_, HS9_, HS10_, HS11_⟩ (fun hHeld => ?_)
          clear hK K
          refine norm_ (a' := ?_) ?_ ?_
          rotate_left
          ·show Act.put _ (some 49) _ = _
           simp only [Act.put, List.setIfInBounds_toArray, List.set_cons_zero, List.set_cons_succ, i64_w, i32_w]
           rfl
          refine pu 10 (some 50) (fl 11 2047) HT_ ?_
          refine done_ (done_of HT_.out (by kernel_rfl)) ?_
          try go_wp2
          go_roundg k1
          case measure => have := HK1.out; omega
          case rel => exact ⟨(x10_1), (ji8), rs_, (by first | rfl | (simp; done) | (simp only [← hji8] <;> (first | rfl | simp)) | (simp [*]; done)), H', ⟨by have := HK1.out; omega⟩, ⟨kr HO_0⟩, ⟨kp_⟩, ⟨bw⟩⟩
        ·rw [if_neg c12] at H
         exact absurd H (by simp)
       ·rw [if_neg c11] at H
        exact absurd H (by simp)
      ·rw [if_neg c10] at H
       exact absurd H (by simp)
     ·rw [if_neg c9] at H
      exact absurd H (by simp)
    ·rw [if_neg c7] at H
     have c7b0 : decide (x10_1 < x11_1) = false := decide_eq_false c7
     clear c7
     have H' := Aside0.mk H
     clear H; go_wp2
     go_loopg [13] k1 (fun kq v13 w' => ∃ (x0_2 : List (S55)) (x13_2 : Int), v13 = .int .i64 x13_2 ∧ Aside0 (fact_Fact_48.l1 kq x0_2 x10_1 x13_2 = some r) ∧ Aside0 (kq ≤ k1) ∧ Aside0 (Kd.R k55 55 w' w0.heap.size (fun k_ => (P0_ k_ ∨ w.heap.size ≤ k_)) u9000_ x0_2) ∧ Aside0 (Kept w w' (fun k_ => P0_ k_)) ∧ Aside0 (Below w0.heap.size w0 w'))
     case atStart => exact ⟨(l0), (a1), rs_, H', ⟨Nat.le_refl _⟩, ⟨kr HO_0⟩, ⟨kp_⟩, ⟨bw⟩⟩
     case round =>
      clear H'
      (try clear c1); (try clear p1); (try clear q1); (try clear hx1); (try clear p2); (try clear c3); (try clear c4); (try clear c6); (try clear c6b0); (try clear c6b1); (try clear p6); (try clear c7); (try clear c7b0); (try clear c9); (try clear c9b0); (try clear c10); (try clear c10b0); (try clear c11); (try clear c11b0); (try clear c12); (try clear c12b0); (try clear p13); (try clear q13); (try clear hx13); (try clear c14); (try clear c14b0); (try clear hx135_0); (try clear hx135_1); (try clear hx135_2); (try clear hx135_3); (try clear hx135_4); (try clear hx135_5); (try clear hx136_0); (try clear hx136_1); (try clear hx136_2); (try clear hx136_3); (try clear hx136_4); (try clear hx136_5); (try clear p135); (try clear p136); (try clear p2); (try clear p6); (try clear q135); (try clear q136)
      obtain ⟨x0_2, x13_2, rfl, HA, HK2, HO_0, HK, HB⟩ := hrel
      cases gk with
      | zero => exact absurd HA.out (by simp [fact_Fact_48.l1])
      | succ k2 =>
       have H := HA.out; clear HA
       simp only [fact_Fact_48.l1] at H
       by_cases c21 : x13_2 < (wrap64 (x10_1 - 1))
       ·rw [if_pos c21] at H
        have c21b0 : decide (x13_2 < (wrap64 (x10_1 - 1))) = true := decide_eq_true c21
        clear c21
        obtain ⟨ji22, hji22⟩ : ∃ j_ : Int, (wrap64 (x13_2 + 1)) = j_ := ⟨_, rfl⟩
        replace H : (if 0 ≤ (ji22) then (if (ji22) < (x0_2.length : Int) then (if 0 ≤ x13_2 then (if x13_2 < (x0_2.length : Int) then (fact_Fact_48.l1 k2 ((x0_2.set (x13_2 : Int).toNat (⟨(⟨(rd_T55 x0_2 (ji22)).f0.f0, (rd_T55 x0_2 (ji22)).f0.f1, (rd_T55 x0_2 (ji22)).f0.f2, (rd_T55 x0_2 (ji22)).f0.f3, (rd_T55 x0_2 (ji22)).f0.f4⟩ : S44), (rd_T55 x0_2 (ji22)).f1⟩ : S55)).set ((ji22) : Int).toNat (⟨(⟨(rd_T55 x0_2 x13_2).f0.f0, (rd_T55 x0_2 x13_2).f0.f1, (rd_T55 x0_2 x13_2).f0.f2, (rd_T55 x0_2 x13_2).f0.f3, (rd_T55 x0_2 x13_2).f0.f4⟩ : S44), (rd_T55 x0_2 x13_2).f1⟩ : S55)) x10_1 ji22) else (none)) else (none)) else (none)) else (none)) = some r := by first | (rw [hji22] at H; exact H) | (simp only [hji22] at H ⊢; exact H)
        have hji22w : (IntKind.i64.wrap (x13_2 + 1)) = ji22 := (i64_w _).trans hji22
        by_cases c23 : 0 ≤ (ji22)
        ·rw [if_pos c23] at H
         have c23b0 : decide (0 ≤ (ji22)) = true := decide_eq_true c23
         clear c23
         by_cases c24 : (ji22) < (x0_2.length : Int)
         ·rw [if_pos c24] at H
          have c24b0 : decide ((ji22) < (x0_2.length : Int)) = true := decide_eq_true c24
          clear c24
          by_cases c25 : 0 ≤ x13_2
          ·rw [if_pos c25] at H
           have c25b0 : decide (0 ≤ x13_2) = true := decide_eq_true c25
           clear c25
           by_cases c26 : x13_2 < (x0_2.length : Int)
           ·rw [if_pos c26] at H
            have c26b0 : decide (x13_2 < (x0_2.length : Int)) = true := decide_eq_true c26
            clear c26
            obtain ⟨y140, hy140⟩ : ∃ y_ : List (S55), y_ = (x0_2.set (x13_2 : Int).toNat (⟨(⟨(rd_T55 x0_2 (ji22)).f0.f0, (rd_T55 x0_2 (ji22)).f0.f1, (rd_T55 x0_2 (ji22)).f0.f2, (rd_T55 x0_2 (ji22)).f0.f3, (rd_T55 x0_2 (ji22)).f0.f4⟩ : S44), (rd_T55 x0_2 (ji22)).f1⟩ : S55)) := ⟨_, rfl⟩
            replace H : (fact_Fact_48.l1 k2 (y140.set ((ji22) : Int).toNat (⟨(⟨(rd_T55 x0_2 x13_2).f0.f0, (rd_T55 x0_2 x13_2).f0.f1, (rd_T55 x0_2 x13_2).f0.f2, (rd_T55 x0_2 x13_2).f0.f3, (rd_T55 x0_2 x13_2).f0.f4⟩ : S44), (rd_T55 x0_2 x13_2).f1⟩ : S55)) x10_1 ji22) = some r := rh hy140 H
            have Ny140 := Aside0.mk hy140; clear hy140
            obtain ⟨y141, hy141⟩ : ∃ y_ : List (S55), y_ = (y140.set ((ji22) : Int).toNat (⟨(⟨(rd_T55 x0_2 x13_2).f0.f0, (rd_T55 x0_2 x13_2).f0.f1, (rd_T55 x0_2 x13_2).f0.f2, (rd_T55 x0_2 x13_2).f0.f3, (rd_T55 x0_2 x13_2).f0.f4⟩ : S44), (rd_T55 x0_2 x13_2).f1⟩ : S55)) := ⟨_, rfl⟩
            replace H : (fact_Fact_48.l1 k2 y141 x10_1 ji22) = some r := rh hy141 H
            have Ny141 := Aside0.mk hy141; clear hy141
            have H' := Aside0.mk H
            clear H
            try go_wp2
            have n0_ := Aside0.mk (Kd.R_drew HO_0.out)
            have n1_ := Aside0.mk (Kept.drew HK.out)
            have n2_ := Aside0.mk (below_drew1 HB.out)
            clear HO_0 HK HB; have HO_0 := n0_; have HK := n1_; have HB := n2_; clear n0_ n1_ n2_
            obtain ⟨Ao30, co30, eo30⟩ := Kd.R_slice HO_0.out
            (first | subst eo30 | (injection eo30 with f1_ f2_ f3_; have f4_ := f1_.symm; have f5_ := f3_.symm; clear f1_ f2_ f3_; subst f4_; subst f5_))
            have p138 : 0 ≤ ((ji22) : Int) := of_decide_eq_true as_
            have q138 : (ji22) < (x0_2.length : Int) := of_decide_eq_true as_
            obtain ⟨ad138, e138, hx138_0, hx138_1, hx138_2, hx138_3, hx138_4, hx138_5⟩ := at_T55 (Kd.R_reads' HO_0.out).2.2 (ji22) p138 q138
            cases e138; replace p138 := eq_true p138; replace q138 := eq_true q138
            have p139 : 0 ≤ (x13_2 : Int) := of_decide_eq_true as_
            have q139 : x13_2 < (x0_2.length : Int) := of_decide_eq_true as_
            obtain ⟨ad139, e139, hx139_0, hx139_1, hx139_2, hx139_3, hx139_4, hx139_5⟩ := at_T55 (Kd.R_reads' HO_0.out).2.2 x13_2 p139 q139
            obtain rfl : ad138 = ad139 := (by injection e139)
            replace p139 := eq_true p139; replace q139 := eq_true q139
            have p27 : 0 ≤ (x13_2 : Int) := of_decide_eq_true as_
            have q27 : (x13_2 : Int) < ((x0_2.length : Int) : Int) := of_decide_eq_true as_
            obtain ⟨go27, co27, eo27, gb27, gl27, cl27, HG27⟩ := Kd.R_form HO_0.out (by omega)
            (first | cases eo27 | (injection eo27 with ea_ en_ ec_; (first | subst ea_ | (injection ea_ with ea_; subst ea_)); subst ec_; clear en_))
            have GB27 := Aside0.mk gb27; have GG27 := Aside0.mk HG27; clear gb27 gl27 HG27
            have HMgo27 := Aside0.mk (show (P0_ go27 ∨ w.heap.size ≤ go27) from (HO_0.out.1 _ rfl))
            (first | simp only [add_plain] at hx138_0 | skip)
            (first | simp only [add_plain] at hx138_1 | skip)
            (first | simp only [add_plain] at hx138_2 | skip)
            (first | simp only [add_plain] at hx138_3 | skip)
            (first | simp only [add_plain] at hx138_4 | skip)
            (first | simp only [add_plain] at hx138_5 | skip)
            (first | simp only [add_plain] at hx139_0 | skip)
            (first | simp only [add_plain] at hx139_1 | skip)
            (first | simp only [add_plain] at hx139_2 | skip)
            (first | simp only [add_plain] at hx139_3 | skip)
            (first | simp only [add_plain] at hx139_4 | skip)
            (first | simp only [add_plain] at hx139_5 | skip)
            obtain ⟨ce27, hcl27, hM27, hcc27, hfr27⟩ := Kd.R_elem HO_0.out z55 (x13_2 : Int) p27 q27
            obtain rfl := k55_openM hM27
            have hx27_0 : World.cell? _ ⟨go27, (x13_2 : Int).toNat * 6, none⟩ = some (.string ((rd_T55 x0_2 x13_2).f0.f0)) := hcc27 0 _ rfl
            have hx27_1 : World.cell? _ ⟨go27, (x13_2 : Int).toNat * 6 + 1, none⟩ = some (.string ((rd_T55 x0_2 x13_2).f0.f1)) := hcc27 1 _ rfl
            have hx27_2 : World.cell? _ ⟨go27, (x13_2 : Int).toNat * 6 + 2, none⟩ = some (.string ((rd_T55 x0_2 x13_2).f0.f2)) := hcc27 2 _ rfl
            have hx27_3 : World.cell? _ ⟨go27, (x13_2 : Int).toNat * 6 + 3, none⟩ = some (.string ((rd_T55 x0_2 x13_2).f0.f3)) := hcc27 3 _ rfl
            have hx27_4 : World.cell? _ ⟨go27, (x13_2 : Int).toNat * 6 + 4, none⟩ = some (.int .i64 ((rd_T55 x0_2 x13_2).f0.f4)) := hcc27 4 _ rfl
            have hx27_5 : World.cell? _ ⟨go27, (x13_2 : Int).toNat * 6 + 5, none⟩ = some (.int .i64 ((rd_T55 x0_2 x13_2).f1)) := hcc27 5 _ rfl
            have hf27_0 : World.frozen? _ ⟨go27, (x13_2 : Int).toNat * 6, none⟩ = false := hfr27 0
            have hf27_1 : World.frozen? _ ⟨go27, (x13_2 : Int).toNat * 6 + 1, none⟩ = false := hfr27 1
            have hf27_2 : World.frozen? _ ⟨go27, (x13_2 : Int).toNat * 6 + 2, none⟩ = false := hfr27 2
            have hf27_3 : World.frozen? _ ⟨go27, (x13_2 : Int).toNat * 6 + 3, none⟩ = false := hfr27 3
            have hf27_4 : World.frozen? _ ⟨go27, (x13_2 : Int).toNat * 6 + 4, none⟩ = false := hfr27 4
            have hf27_5 : World.frozen? _ ⟨go27, (x13_2 : Int).toNat * 6 + 5, none⟩ = false := hfr27 5
            clear hcl27 hcc27 hfr27 hM27; replace p27 := eq_true p27; replace q27 := eq_true q27
            obtain ⟨ce31, hcl31, hM31, hcc31, hfr31⟩ := Kd.R_elem HO_0.out z55 (x13_2 : Int) (of_decide_eq_true as_) (by have h_ : (x13_2 : Int) < ((x0_2.length : Int) : Int) := of_decide_eq_true as_; first | exact h_ | (have e_ := (Kd.R_reads' HO_0.out).1; omega) | simpa using h_)
            obtain rfl := k55_openM hM31
            have HP31 := (Kd.R_seg HO_0.out (x13_2 : Int) (of_decide_eq_true as_) (by have h_ : (x13_2 : Int) < ((x0_2.length : Int) : Int) := of_decide_eq_true as_; first | exact h_ | (have e_ := (Kd.R_reads' HO_0.out).1; omega) | simpa using h_) (seg := [.string ((rd_T55 x0_2 (ji22)).f0.f0), .string ((rd_T55 x0_2 (ji22)).f0.f1), .string ((rd_T55 x0_2 (ji22)).f0.f2), .string ((rd_T55 x0_2 (ji22)).f0.f3), .int .i64 ((rd_T55 x0_2 (ji22)).f0.f4), .int .i64 ((rd_T55 x0_2 (ji22)).f1)]) (j := 0) hcl31 hcc31 (show 6 ≤ 6 from by decide) (x' := (⟨(⟨(rd_T55 x0_2 (ji22)).f0.f0, (rd_T55 x0_2 (ji22)).f0.f1, (rd_T55 x0_2 (ji22)).f0.f2, (rd_T55 x0_2 (ji22)).f0.f3, (rd_T55 x0_2 (ji22)).f0.f4⟩ : S44), (rd_T55 x0_2 (ji22)).f1⟩ : S55)) (k55_mkM _ _ _ (⟨(⟨(rd_T55 x0_2 (ji22)).f0.f0, (rd_T55 x0_2 (ji22)).f0.f1, (rd_T55 x0_2 (ji22)).f0.f2, (rd_T55 x0_2 (ji22)).f0.f3, (rd_T55 x0_2 (ji22)).f0.f4⟩ : S44), (rd_T55 x0_2 (ji22)).f1⟩ : S55) ) (fun _ hk => hk)).1
            rw [← Ny140.out] at HP31
            have HQ31 := Aside0.mk HP31; clear hcl31 hcc31 hfr31 hM31 HP31
            have p28 : 0 ≤ ((ji22) : Int) := of_decide_eq_true as_
            have q28 : ((ji22) : Int) < ((x0_2.length : Int) : Int) := of_decide_eq_true as_
            obtain ⟨ce28, hcl28, hM28, hcc28, hfr28⟩ := Kd.R_elem HQ31.out z55 ((ji22) : Int) p28 q28
            obtain rfl := k55_openM hM28
            have hx28_0 : World.cell? _ ⟨go27, ((ji22) : Int).toNat * 6, none⟩ = some (.string ((rd_T55 y140 (ji22)).f0.f0)) := hcc28 0 _ rfl
            have hx28_1 : World.cell? _ ⟨go27, ((ji22) : Int).toNat * 6 + 1, none⟩ = some (.string ((rd_T55 y140 (ji22)).f0.f1)) := hcc28 1 _ rfl
            have hx28_2 : World.cell? _ ⟨go27, ((ji22) : Int).toNat * 6 + 2, none⟩ = some (.string ((rd_T55 y140 (ji22)).f0.f2)) := hcc28 2 _ rfl
            have hx28_3 : World.cell? _ ⟨go27, ((ji22) : Int).toNat * 6 + 3, none⟩ = some (.string ((rd_T55 y140 (ji22)).f0.f3)) := hcc28 3 _ rfl
            have hx28_4 : World.cell? _ ⟨go27, ((ji22) : Int).toNat * 6 + 4, none⟩ = some (.int .i64 ((rd_T55 y140 (ji22)).f0.f4)) := hcc28 4 _ rfl
            have hx28_5 : World.cell? _ ⟨go27, ((ji22) : Int).toNat * 6 + 5, none⟩ = some (.int .i64 ((rd_T55 y140 (ji22)).f1)) := hcc28 5 _ rfl
            have hf28_0 : World.frozen? _ ⟨go27, ((ji22) : Int).toNat * 6, none⟩ = false := hfr28 0
            have hf28_1 : World.frozen? _ ⟨go27, ((ji22) : Int).toNat * 6 + 1, none⟩ = false := hfr28 1
            have hf28_2 : World.frozen? _ ⟨go27, ((ji22) : Int).toNat * 6 + 2, none⟩ = false := hfr28 2
            have hf28_3 : World.frozen? _ ⟨go27, ((ji22) : Int).toNat * 6 + 3, none⟩ = false := hfr28 3
            have hf28_4 : World.frozen? _ ⟨go27, ((ji22) : Int).toNat * 6 + 4, none⟩ = false := hfr28 4
            have hf28_5 : World.frozen? _ ⟨go27, ((ji22) : Int).toNat * 6 + 5, none⟩ = false := hfr28 5
            clear hcl28 hcc28 hfr28 hM28; replace p28 := eq_true p28; replace q28 := eq_true q28
            obtain ⟨ce32, hcl32, hM32, hcc32, hfr32⟩ := Kd.R_elem HQ31.out z55 ((ji22) : Int) (of_decide_eq_true as_) (by have h_ : ((ji22) : Int) < ((x0_2.length : Int) : Int) := of_decide_eq_true as_; first | exact h_ | (have e_ := (Kd.R_reads' HO_0.out).1; omega) | simpa using h_)
            obtain rfl := k55_openM hM32
            have HP32 := (Kd.R_seg HQ31.out ((ji22) : Int) (of_decide_eq_true as_) (by have h_ : ((ji22) : Int) < ((x0_2.length : Int) : Int) := of_decide_eq_true as_; first | exact h_ | (have e_ := (Kd.R_reads' HO_0.out).1; omega) | simpa using h_) (seg := [.string ((rd_T55 x0_2 x13_2).f0.f0), .string ((rd_T55 x0_2 x13_2).f0.f1), .string ((rd_T55 x0_2 x13_2).f0.f2), .string ((rd_T55 x0_2 x13_2).f0.f3), .int .i64 ((rd_T55 x0_2 x13_2).f0.f4), .int .i64 ((rd_T55 x0_2 x13_2).f1)]) (j := 0) hcl32 hcc32 (show 6 ≤ 6 from by decide) (x' := (⟨(⟨(rd_T55 x0_2 x13_2).f0.f0, (rd_T55 x0_2 x13_2).f0.f1, (rd_T55 x0_2 x13_2).f0.f2, (rd_T55 x0_2 x13_2).f0.f3, (rd_T55 x0_2 x13_2).f0.f4⟩ : S44), (rd_T55 x0_2 x13_2).f1⟩ : S55)) (k55_mkM _ _ _ (⟨(⟨(rd_T55 x0_2 x13_2).f0.f0, (rd_T55 x0_2 x13_2).f0.f1, (rd_T55 x0_2 x13_2).f0.f2, (rd_T55 x0_2 x13_2).f0.f3, (rd_T55 x0_2 x13_2).f0.f4⟩ : S44), (rd_T55 x0_2 x13_2).f1⟩ : S55) ) (fun _ hk => hk)).1
            rw [← Ny141.out] at HP32
            have HQ32 := Aside0.mk HP32; clear hcl32 hcc32 hfr32 hM32 HP32
            refine start_ (n := 18) (S := fun w' => w'.cell? ⟨go27, ((ji22)).toNat * 6, none⟩ = some (.string ((rd_T55 x0_2 (ji22)).f0.f0)) ∧ w'.cell? ⟨go27, ((ji22)).toNat * 6 + 1, none⟩ = some (.string ((rd_T55 x0_2 (ji22)).f0.f1)) ∧ w'.cell? ⟨go27, ((ji22)).toNat * 6 + 2, none⟩ = some (.string ((rd_T55 x0_2 (ji22)).f0.f2)) ∧ w'.cell? ⟨go27, ((ji22)).toNat * 6 + 3, none⟩ = some (.string ((rd_T55 x0_2 (ji22)).f0.f3)) ∧ w'.cell? ⟨go27, ((ji22)).toNat * 6 + 4, none⟩ = some (.int .i64 ((rd_T55 x0_2 (ji22)).f0.f4)) ∧ w'.cell? ⟨go27, ((ji22)).toNat * 6 + 5, none⟩ = some (.int .i64 ((rd_T55 x0_2 (ji22)).f1)) ∧ w'.cell? ⟨go27, ((x13_2).toNat * 6), none⟩ = some (.string ((rd_T55 x0_2 x13_2).f0.f0)) ∧ w'.cell? ⟨go27, ((x13_2).toNat * 6) + 1, none⟩ = some (.string ((rd_T55 x0_2 x13_2).f0.f1)) ∧ w'.cell? ⟨go27, ((x13_2).toNat * 6) + 2, none⟩ = some (.string ((rd_T55 x0_2 x13_2).f0.f2)) ∧ w'.cell? ⟨go27, ((x13_2).toNat * 6) + 3, none⟩ = some (.string ((rd_T55 x0_2 x13_2).f0.f3)) ∧ w'.cell? ⟨go27, ((x13_2).toNat * 6) + 4, none⟩ = some (.int .i64 ((rd_T55 x0_2 x13_2).f0.f4)) ∧ w'.cell? ⟨go27, ((x13_2).toNat * 6) + 5, none⟩ = some (.int .i64 ((rd_T55 x0_2 x13_2).f1))) (ds := [15, 17]) (fl 18 0) (by kernel_rfl) rfl rfl ⟨hx138_0, hx138_1, hx138_2, hx138_3, hx138_4, hx138_5, hx139_0, hx139_1, hx139_2, hx139_3, hx139_4, hx139_5⟩ (fun hHeld => ?_); refine with_tabW fact_Fact_48.tab11 fact_Fact_48.bits11 (fun HT_ HW_ => ?_)
            generalize wr.drew = w29 at HO_0 HK HB GG27 HQ31 HQ32 hf27_0 hf27_1 hf27_2 hf27_3 hf27_4 hf27_5 hf28_0 hf28_1 hf28_2 hf28_3 hf28_4 hf28_5 hx138_0 hx138_1 hx138_2 hx138_3 hx138_4 hx138_5 hx139_0 hx139_1 hx139_2 hx139_3 hx139_4 hx139_5 hx27_0 hx27_1 hx27_2 hx27_3 hx27_4 hx27_5 hx28_0 hx28_1 hx28_2 hx28_3 hx28_4 hx28_5 hHeld ⊢
            refine pu 0 (some 61) (fl 18 1) HT_ ?_
            refine pu 1 (some 62) (fl 18 3) HT_ ?_
            refine pu 2 (some 63) (fl 18 7) HT_ ?_
            refine pu 3 (some 64) (fl 18 15) HT_ ?_
            refine pu 4 (some 65) (fl 18 31) HT_ ?_
            refine pu 5 (some 66) (fl 18 63) HT_ ?_
            refine pu 6 (some 67) (fl 18 127) HT_ ?_
            refine pu 7 (some 68) (fl 18 255) HT_ ?_
            refine pu 8 (some 69) (fl 18 511) HT_ ?_
            refine pu 10 (some 71) (fl 18 1535) HT_ ?_
            refine pu 11 (some 72) (fl 18 3583) HT_ ?_
            refine pu 12 (some 73) (fl 18 7679) HT_ ?_
            refine tu 9 (some 70) (fl 18 8191) HT_ HW_ hHeld ?_
            refine tu 13 (some 74) (fl 18 16383) HT_ HW_ hHeld ?_
            refine pu 14 (some 75) (fl 18 32767) HT_ ?_
            refine last_ (i := 15) (N := none) (fl 18 65535) rfl rfl (one_of HT_.out (by kernel_rfl)) (by decide) (fun K hK => ?_)
            refine skip_ (w1 := ?_) (by rfl) rfl ?_ ?_
            rotate_left
            ·go_simp; rfl
            refine hK.out _ _ ?_
            clear hK K
            refine pu 16 (some 76) (fl 18 131071) HT_ ?_
            refine last_ (i := 17) (N := none) (fl 18 262143) rfl rfl (one_of HT_.out (by kernel_rfl)) (by decide) (fun K hK => ?_)
            refine skip_ (w1 := ?_) (by rfl) rfl ?_ ?_
            rotate_left
            ·obtain ⟨gv_0_0, gy_0_0⟩ := cell?_setCell_some (p := ⟨go27, (x13_2).toNat * 6, none⟩) (x := .string ((rd_T55 x0_2 (ji22)).f0.f0)) hx138_0
             obtain ⟨gv_1_0, gy_1_0⟩ := cell?_setCell_some (p := ⟨go27, (x13_2).toNat * 6, none⟩) (x := .string ((rd_T55 x0_2 (ji22)).f0.f0)) hx138_1
             obtain ⟨gv_1_1, gy_1_1⟩ := cell?_setCell_some (p := ⟨go27, (x13_2).toNat * 6 + 1, none⟩) (x := .string ((rd_T55 x0_2 (ji22)).f0.f1)) gy_1_0
             clear gy_1_0
             obtain ⟨gv_2_0, gy_2_0⟩ := cell?_setCell_some (p := ⟨go27, (x13_2).toNat * 6, none⟩) (x := .string ((rd_T55 x0_2 (ji22)).f0.f0)) hx138_2
             obtain ⟨gv_2_1, gy_2_1⟩ := cell?_setCell_some (p := ⟨go27, (x13_2).toNat * 6 + 1, none⟩) (x := .string ((rd_T55 x0_2 (ji22)).f0.f1)) gy_2_0
             obtain ⟨gv_2_2, gy_2_2⟩ := cell?_setCell_some (p := ⟨go27, (x13_2).toNat * 6 + 2, none⟩) (x := .string ((rd_T55 x0_2 (ji22)).f0.f2)) gy_2_1
             clear gy_2_0 gy_2_1
             obtain ⟨gv_3_0, gy_3_0⟩ := cell?_setCell_some (p := ⟨go27, (x13_2).toNat * 6, none⟩) (x := .string ((rd_T55 x0_2 (ji22)).f0.f0)) hx138_3
             obtain ⟨gv_3_1, gy_3_1⟩ := cell?_setCell_some (p := ⟨go27, (x13_2).toNat * 6 + 1, none⟩) (x := .string ((rd_T55 x0_2 (ji22)).f0.f1)) gy_3_0
             obtain ⟨gv_3_2, gy_3_2⟩ := cell?_setCell_some (p := ⟨go27, (x13_2).toNat * 6 + 2, none⟩) (x := .string ((rd_T55 x0_2 (ji22)).f0.f2)) gy_3_1
             obtain ⟨gv_3_3, gy_3_3⟩ := cell?_setCell_some (p := ⟨go27, (x13_2).toNat * 6 + 3, none⟩) (x := .string ((rd_T55 x0_2 (ji22)).f0.f3)) gy_3_2
             clear gy_3_0 gy_3_1 gy_3_2
             obtain ⟨gv_4_0, gy_4_0⟩ := cell?_setCell_some (p := ⟨go27, (x13_2).toNat * 6, none⟩) (x := .string ((rd_T55 x0_2 (ji22)).f0.f0)) hx138_4
             obtain ⟨gv_4_1, gy_4_1⟩ := cell?_setCell_some (p := ⟨go27, (x13_2).toNat * 6 + 1, none⟩) (x := .string ((rd_T55 x0_2 (ji22)).f0.f1)) gy_4_0
             obtain ⟨gv_4_2, gy_4_2⟩ := cell?_setCell_some (p := ⟨go27, (x13_2).toNat * 6 + 2, none⟩) (x := .string ((rd_T55 x0_2 (ji22)).f0.f2)) gy_4_1
             obtain ⟨gv_4_3, gy_4_3⟩ := cell?_setCell_some (p := ⟨go27, (x13_2).toNat * 6 + 3, none⟩) (x := .string ((rd_T55 x0_2 (ji22)).f0.f3)) gy_4_2
             obtain ⟨gv_4_4, gy_4_4⟩ := cell?_setCell_some (p := ⟨go27, (x13_2).toNat * 6 + 4, none⟩) (x := .int .i64 ((rd_T55 x0_2 (ji22)).f0.f4)) gy_4_3
             clear gy_4_0 gy_4_1 gy_4_2 gy_4_3
             obtain ⟨gv_5_0, gy_5_0⟩ := cell?_setCell_some (p := ⟨go27, (x13_2).toNat * 6, none⟩) (x := .string ((rd_T55 x0_2 (ji22)).f0.f0)) hx138_5
             obtain ⟨gv_5_1, gy_5_1⟩ := cell?_setCell_some (p := ⟨go27, (x13_2).toNat * 6 + 1, none⟩) (x := .string ((rd_T55 x0_2 (ji22)).f0.f1)) gy_5_0
             obtain ⟨gv_5_2, gy_5_2⟩ := cell?_setCell_some (p := ⟨go27, (x13_2).toNat * 6 + 2, none⟩) (x := .string ((rd_T55 x0_2 (ji22)).f0.f2)) gy_5_1
             obtain ⟨gv_5_3, gy_5_3⟩ := cell?_setCell_some (p := ⟨go27, (x13_2).toNat * 6 + 3, none⟩) (x := .string ((rd_T55 x0_2 (ji22)).f0.f3)) gy_5_2
             obtain ⟨gv_5_4, gy_5_4⟩ := cell?_setCell_some (p := ⟨go27, (x13_2).toNat * 6 + 4, none⟩) (x := .int .i64 ((rd_T55 x0_2 (ji22)).f0.f4)) gy_5_3
             obtain ⟨gv_5_5, gy_5_5⟩ := cell?_setCell_some (p := ⟨go27, (x13_2).toNat * 6 + 5, none⟩) (x := .int .i64 ((rd_T55 x0_2 (ji22)).f1)) gy_5_4
             clear gy_5_0 gy_5_1 gy_5_2 gy_5_3 gy_5_4
             obtain ⟨_, _, _, _, gfr_⟩ := Kd.R_elem HO_0.out z55 ((ji22) : Int) (of_eq_true p138) (of_eq_true q138)
             have gf_0 : World.frozen? _ ⟨go27, (ji22).toNat * 6, none⟩ = false := gfr_ 0
             have gf_1 : World.frozen? _ ⟨go27, (ji22).toNat * 6 + 1, none⟩ = false := gfr_ 1
             have gf_2 : World.frozen? _ ⟨go27, (ji22).toNat * 6 + 2, none⟩ = false := gfr_ 2
             have gf_3 : World.frozen? _ ⟨go27, (ji22).toNat * 6 + 3, none⟩ = false := gfr_ 3
             have gf_4 : World.frozen? _ ⟨go27, (ji22).toNat * 6 + 4, none⟩ = false := gfr_ 4
             have gf_5 : World.frozen? _ ⟨go27, (ji22).toNat * 6 + 5, none⟩ = false := gfr_ 5
             clear gfr_; go_simp; rfl
            refine hK.out _ _ ?_
            clear hK K
            refine done_ (done_of HT_.out (by kernel_rfl)) ?_
            try go_wp2
            go_roundg k2
            case measure => have := HK1.out; have := HK2.out; omega
            case rel => exact ⟨(y141), (ji22), (by first | rfl | (simp; done) | (simp only [← hji22] <;> (first | rfl | simp)) | (simp [*]; done)), H', ⟨by have := HK1.out; have := HK2.out; omega⟩, ⟨kr HQ32⟩, ⟨by repeat (first | (with_reducible first | exact HK.out | apply Kept.alloc | apply Kept.drewN | apply Kept.drew | refine Kept.setCell ?_ HMgo27.out _ | refine Kept.setCell ?_ HMgo27.out _ | refine Kept.setCell ?_ HMgo27.out _ | refine Kept.setCell ?_ HMgo27.out _ | refine Kept.setCell ?_ HMgo27.out _ | refine Kept.setCell ?_ HMgo27.out _ | refine Kept.setCell ?_ HMgo27.out _ | refine Kept.setCell ?_ HMgo27.out _ | refine Kept.setCell ?_ HMgo27.out _ | refine Kept.setCell ?_ HMgo27.out _ | refine Kept.setCell ?_ HMgo27.out _ | refine Kept.setCell ?_ HMgo27.out _) | exact HK.out)⟩, ⟨by repeat (first | (with_reducible first | exact HB.out | apply below_alloc | apply pw_below_drewN | apply below_drew1 | refine below_set ?_ GB27.out | refine below_set ?_ GB27.out | refine below_set ?_ GB27.out | refine below_set ?_ GB27.out | refine below_set ?_ GB27.out | refine below_set ?_ GB27.out | refine below_set ?_ GB27.out | refine below_set ?_ GB27.out | refine below_set ?_ GB27.out | refine below_set ?_ GB27.out | refine below_set ?_ GB27.out | refine below_set ?_ GB27.out) | exact HB.out)⟩⟩
           ·rw [if_neg c26] at H
            exact absurd H (by simp)
          ·rw [if_neg c25] at H
           exact absurd H (by simp)
         ·rw [if_neg c24] at H
          exact absurd H (by simp)
        ·rw [if_neg c23] at H
         exact absurd H (by simp)
       ·rw [if_neg c21] at H
        have c21b0 : decide (x13_2 < (wrap64 (x10_1 - 1))) = false := decide_eq_false c21
        clear c21
        obtain rfl := Option.some.inj H
        go_wp2
        first | go_end0 | ((try simp only [Exit.inBlock, Exit.then]); refine bodyPost_ret (results_none rfl _ _ _) rfl ?_)
        exact ⟨re_, kr HO_0, by repeat (first | (with_reducible first | exact HB.out | apply below_alloc | apply pw_below_drewN | apply below_drew1) | exact HB.out), kp_⟩
 ·exact absurd hcA.out c6
end Go.Proofs.Ytdckeflggcefbaa.Y
