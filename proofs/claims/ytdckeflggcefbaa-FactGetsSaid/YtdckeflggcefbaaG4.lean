/- Plain Lean functions with the answers of the program's functions, and proofs that the machine's calls come to them; lines written by a program for this claim. No conditions. -/
import Derived.Test.YtdckeflggcefbaaG1
import Derived.Test.YtdckeflggcefbaaG3
namespace Go.Proofs.Ytdckeflggcefbaa.Y
open Go.RowKit Go.Proofs.YtdckeflggcefbaaW.PrintWords Go.Proofs.YtdckeflggcefbaaW.PrintLast Go.Proofs.YtdckeflggcefbaaW.PrintMore
attribute [local go_sem] max2_int min2_int max_two min_two max_three min_three max_four min_four
set_option linter.unusedVariables false
set_option linter.unusedSimpArgs false

/-! ### fact_Fact_50: function 50 -/
def fact_Fact_50.l0 : Nat → List (S55) → Int → Int → Int → Option ((List (S55)))
 | 0, _, _, _, _ => none
 | k + 1, x0, x2, x10, x11 => if x10 = x11 then ((fact_Fact_51.f k x0 (wrap64 (x2 - x10)) x2 x10).bind fun t132 => (some t132)) else (if x10 > x11 then ((fact_Fact_51.f k x0 (wrap64 (x2 - x10)) x2 x11).bind fun t133 => (fact_Fact_50.l0 k t133 x2 (wrap64 (x10 - x11)) x11)) else ((fact_Fact_51.f k x0 (wrap64 (x2 - x10)) (wrap64 ((wrap64 (x2 + x11)) - x10)) x10).bind fun t134 => (fact_Fact_50.l0 k t134 x2 x10 (wrap64 (x11 - x10)))))
def fact_Fact_50.f (k : Nat) (l0 : List (S55)) (a1 : Int) (a2 : Int) (a3 : Int)  : Option ((List (S55))) := fact_Fact_50.l0 k l0 a2 (wrap64 (a2 - a1)) (wrap64 (a3 - a2))
theorem fact_Fact_50.mono_l : ∀ k, (∀ y0 y1 y2 y3, LeO (fact_Fact_50.l0 k y0 y1 y2 y3) (fact_Fact_50.l0 (k + 1) y0 y1 y2 y3))
 | 0 => fun _ _ _ _ r h => by simp [fact_Fact_50.l0] at h
 | k + 1 => by
  have ih0 := fact_Fact_50.mono_l k
  ·intro y0 y1 y2 y3
   unfold fact_Fact_50.l0
   with_reducible repeat' first | apply ih0 | apply fact_Fact_51.mono | refine LeO.refl _ | refine LeO.none _ | refine LeO.ite ?_ ?_ | refine LeO.bind ?_ (fun _ => ?_)
theorem fact_Fact_50.mono : ∀ a0 a1 a2 a3 k, LeO (fact_Fact_50.f k a0 a1 a2 a3) (fact_Fact_50.f (k + 1) a0 a1 a2 a3) := by
 intro a0 a1 a2 a3 k
 have ih0 := fact_Fact_50.mono_l k
 unfold fact_Fact_50.f
 with_reducible repeat' first | apply ih0 | apply fact_Fact_51.mono | refine LeO.refl _ | refine LeO.none _ | refine LeO.ite ?_ ?_ | refine LeO.bind ?_ (fun _ => ?_)
set_option maxHeartbeats 8000000 in
set_option maxRecDepth 100000 in
theorem fact_Fact_50.calls (k : Nat) (P0_ : Nat → Prop) (u9000_ : Value) (l0 : List (S55)) (a1 : Int) (a2 : Int) (a3 : Int)  (r : List (S55)) (w0 w : World) (hB : Below w0.heap.size w0 w) (ho0 : Kd.R k55 55 w w0.heap.size P0_ u9000_ l0) (h : fact_Fact_50.f k l0 a1 a2 a3 = some r) :
  Calls Try.prog 50 #[u9000_, .int .i64 a1, .int .i64 a2, .int .i64 a3, .func (.func 34) #[] #[]] w fun e w' => e = .returned (.tuple #[]) ∧ Kd.R k55 55 w' w0.heap.size (fun k_ => (P0_ k_ ∨ w.heap.size ≤ k_)) u9000_ r ∧ Below w0.heap.size w0 w' ∧ Kept w w' (fun k_ => P0_ k_) := by
 have HO0 := Aside0.mk (show Kd.R k55 55 w w0.heap.size (fun k_ => (P0_ k_ ∨ w.heap.size ≤ k_)) u9000_ l0 from Kd.R_mono ho0 (fun k_ hk => (.inl hk)))
 have HK := Aside0.mk (Kept.refl w (fun k_ => P0_ k_))
 have HW0 := Aside0.mk hB.size
 have HB := Aside0.mk hB; clear hB
 have H : (fact_Fact_50.l0 k l0 a2 (wrap64 (a2 - a1)) (wrap64 (a3 - a2))) = some r := h
 clear h
 have H' := Aside0.mk H
 clear H
 go_enter Try.func50, Try.ntmps50
 go_wp2
 go_loopg [10, 11] k (fun kq v10 v11 w' => ∃ (x0_1 : List (S55)) (x10_1 : Int) (x11_1 : Int), v10 = .int .i64 x10_1 ∧ v11 = .int .i64 x11_1 ∧ Aside0 (fact_Fact_50.l0 kq x0_1 a2 x10_1 x11_1 = some r) ∧ Aside0 (kq ≤ k) ∧ Aside0 (Kd.R k55 55 w' w0.heap.size (fun k_ => (P0_ k_ ∨ w.heap.size ≤ k_)) u9000_ x0_1) ∧ Aside0 (Kept w w' (fun k_ => P0_ k_)) ∧ Aside0 (Below w0.heap.size w0 w'))
 case atStart => exact ⟨(l0), (wrap64 (a2 - a1)), (wrap64 (a3 - a2)), rs_, rs_, H', ⟨Nat.le_refl _⟩, ⟨kr HO0⟩, ⟨kp_⟩, ⟨bw⟩⟩
 case round =>
  clear H'
  (try clear p2); (try clear c5)
  obtain ⟨x0_1, x10_1, x11_1, rfl, rfl, HA, HK1, HO_0, HK, HB⟩ := hrel
  cases gk with
  | zero => exact absurd HA.out (by simp [fact_Fact_50.l0])
  | succ k1 =>
   have H := HA.out; clear HA
   simp only [fact_Fact_50.l0] at H
   by_cases c6 : x10_1 = x11_1
   ·rw [if_pos c6] at H
    have c6b0 : (x10_1 == x11_1) = true := beq_iff_eq.mpr c6
    have c6b1 : (x10_1 != x11_1) = false := bne_eq_false_iff_eq.mpr c6
    clear c6
    replace H := Option.bind_eq_some_iff.mp H
    obtain ⟨t132, A70, H⟩ := H
    replace H : (some t132) = some r := H
    have A7 := Aside0.mk A70; clear A70
    obtain rfl := Option.some.inj H
    obtain ⟨Ao8, co8, eo8⟩ := Kd.R_slice HO_0.out
    subst eo8
    go_wp2_with (first | ((with_reducible refine gate_callee (f := 51) rfl ?_); refine goesL_ (some 57) rfl rfl Try.func51 (by kernel_rfl) rfl #[.slice Ao8 x0_1.length co8, .int .i64 (wrap64 (a2 - x10_1)), .int .i64 a2, .int .i64 x10_1, .func (.func 34) #[] #[]] rfl mp_ ?_; (with_reducible refine (fact_Fact_51.calls k1 (fun k_ => some k_ = (.slice Ao8 x0_1.length co8 : Value).ownBlock) (.slice Ao8 x0_1.length co8) x0_1 (wrap64 (a2 - x10_1)) a2 x10_1  t132 w0 _ ?side1 ?side2 A7.out).mono ?_); (case side1 => repeat (first | (with_reducible first | exact HB.out | apply below_alloc | apply pw_below_drewN | apply below_drew1) | exact HB.out)); (case side2 => exact Kd.R_tight rfl HO_0.out); rintro e w9 ⟨rfl, hy0, hb, hkp⟩; refine ⟨_, rfl, ?_⟩; have n0_ := Aside0.mk (Kd.R_reok rfl hy0 (fun k_ e_ => HO_0.out.1 k_ e_)); have n1_ := Aside0.mk (Kept.then_ (S := (fun k_ => P0_ k_)) kp_ hkp (fun k_ hs_ => (fun e_ => (HO_0.out.1 k_ e_.symm)) hs_)); have n2_ := Aside0.mk (hb); clear HO_0; clear HK; clear HB; have HO_0 := n0_; have HK := n1_; have HB := n2_; clear n0_ n1_ n2_; (try clear hb); (try clear hkp); (try clear hy0)))
    first | go_end0 | ((try simp only [Exit.inBlock, Exit.then]); refine bodyPost_ret (results_none rfl _ _ _) rfl ?_)
    exact ⟨re_, kr HO_0, by repeat (first | (with_reducible first | exact HB.out | apply below_alloc | apply pw_below_drewN | apply below_drew1) | exact HB.out), kp_⟩
   ·rw [if_neg c6] at H
    have c6b0 : (x10_1 == x11_1) = false := beq_eq_false_iff_ne.mpr c6
    have c6b1 : (x10_1 != x11_1) = true := bne_iff_ne.mpr c6
    by_cases c10 : x10_1 > x11_1
    ·rw [if_pos c10] at H
     have c10b0 : decide (x11_1 < x10_1) = true := decide_eq_true c10
     clear c10
     replace H := Option.bind_eq_some_iff.mp H
     obtain ⟨t133, A110, H⟩ := H
     replace H : (fact_Fact_50.l0 k1 t133 a2 (wrap64 (x10_1 - x11_1)) x11_1) = some r := H
     have A11 := Aside0.mk A110; clear A110
     have H' := Aside0.mk H
     clear H
     obtain ⟨Ao12, co12, eo12⟩ := Kd.R_slice HO_0.out
     subst eo12
     go_wp2_with (first | ((with_reducible refine gate_callee (f := 51) rfl ?_); refine goesL_ (some 31) rfl rfl Try.func51 (by kernel_rfl) rfl #[.slice Ao12 x0_1.length co12, .int .i64 (wrap64 (a2 - x10_1)), .int .i64 a2, .int .i64 x11_1, .func (.func 34) #[] #[]] rfl mp_ ?_; (with_reducible refine (fact_Fact_51.calls k1 (fun k_ => some k_ = (.slice Ao12 x0_1.length co12 : Value).ownBlock) (.slice Ao12 x0_1.length co12) x0_1 (wrap64 (a2 - x10_1)) a2 x11_1  t133 w0 _ ?side1 ?side2 A11.out).mono ?_); (case side1 => repeat (first | (with_reducible first | exact HB.out | apply below_alloc | apply pw_below_drewN | apply below_drew1) | exact HB.out)); (case side2 => exact Kd.R_tight rfl HO_0.out); rintro e w13 ⟨rfl, hy0, hb, hkp⟩; refine ⟨_, rfl, ?_⟩; have n0_ := Aside0.mk (Kd.R_reok rfl hy0 (fun k_ e_ => HO_0.out.1 k_ e_)); have n1_ := Aside0.mk (Kept.then_ (S := (fun k_ => P0_ k_)) kp_ hkp (fun k_ hs_ => (fun e_ => (HO_0.out.1 k_ e_.symm)) hs_)); have n2_ := Aside0.mk (hb); clear HO_0; clear HK; clear HB; have HO_0 := n0_; have HK := n1_; have HB := n2_; clear n0_ n1_ n2_; (try clear hb); (try clear hkp); (try clear hy0)))
     go_roundg k1
     case measure => have := HK1.out; omega
     case rel => exact ⟨(t133), (wrap64 (x10_1 - x11_1)), (x11_1), rs_, rs_, H', ⟨by have := HK1.out; omega⟩, ⟨kr HO_0⟩, ⟨kp_⟩, ⟨bw⟩⟩
    ·rw [if_neg c10] at H
     have c10b0 : decide (x11_1 < x10_1) = false := decide_eq_false c10
     clear c10
     replace H := Option.bind_eq_some_iff.mp H
     obtain ⟨t134, A140, H⟩ := H
     replace H : (fact_Fact_50.l0 k1 t134 a2 x10_1 (wrap64 (x11_1 - x10_1))) = some r := H
     have A14 := Aside0.mk A140; clear A140
     have H' := Aside0.mk H
     clear H
     obtain ⟨Ao15, co15, eo15⟩ := Kd.R_slice HO_0.out
     subst eo15
     go_wp2_with (first | ((with_reducible refine gate_callee (f := 51) rfl ?_); refine goesL_ (some 46) rfl rfl Try.func51 (by kernel_rfl) rfl #[.slice Ao15 x0_1.length co15, .int .i64 (wrap64 (a2 - x10_1)), .int .i64 (wrap64 ((wrap64 (a2 + x11_1)) - x10_1)), .int .i64 x10_1, .func (.func 34) #[] #[]] rfl mp_ ?_; (with_reducible refine (fact_Fact_51.calls k1 (fun k_ => some k_ = (.slice Ao15 x0_1.length co15 : Value).ownBlock) (.slice Ao15 x0_1.length co15) x0_1 (wrap64 (a2 - x10_1)) (wrap64 ((wrap64 (a2 + x11_1)) - x10_1)) x10_1  t134 w0 _ ?side1 ?side2 A14.out).mono ?_); (case side1 => repeat (first | (with_reducible first | exact HB.out | apply below_alloc | apply pw_below_drewN | apply below_drew1) | exact HB.out)); (case side2 => exact Kd.R_tight rfl HO_0.out); rintro e w16 ⟨rfl, hy0, hb, hkp⟩; refine ⟨_, rfl, ?_⟩; have n0_ := Aside0.mk (Kd.R_reok rfl hy0 (fun k_ e_ => HO_0.out.1 k_ e_)); have n1_ := Aside0.mk (Kept.then_ (S := (fun k_ => P0_ k_)) kp_ hkp (fun k_ hs_ => (fun e_ => (HO_0.out.1 k_ e_.symm)) hs_)); have n2_ := Aside0.mk (hb); clear HO_0; clear HK; clear HB; have HO_0 := n0_; have HK := n1_; have HB := n2_; clear n0_ n1_ n2_; (try clear hb); (try clear hkp); (try clear hy0)))
     go_roundg k1
     case measure => have := HK1.out; omega
     case rel => exact ⟨(t134), (x10_1), (wrap64 (x11_1 - x10_1)), rs_, rs_, H', ⟨by have := HK1.out; omega⟩, ⟨kr HO_0⟩, ⟨kp_⟩, ⟨bw⟩⟩
/-! ### fact_Fact_48: function 48 -/
mutual
def fact_Fact_48.l0 : Nat → List (S55) → Int → Int → Int → Option ((List (S55)))
 | 0, _, _, _, _ => none
 | k + 1, x0, x1, x10, x11 => if x10 < x11 then (if 0 ≤ (wrap64 ((IntKind.u64.wrap (wrap64 (x10 + x11))) / 2)) then (if (wrap64 ((IntKind.u64.wrap (wrap64 (x10 + x11))) / 2)) < (x0.length : Int) then (if 0 ≤ x1 then (if x1 < (x0.length : Int) then ((fact_Of_1.f k ((rd_T55 x0 (wrap64 ((IntKind.u64.wrap (wrap64 (x10 + x11))) / 2))).f0.f0) ((rd_T55 x0 (wrap64 ((IntKind.u64.wrap (wrap64 (x10 + x11))) / 2))).f0.f1) ((rd_T55 x0 (wrap64 ((IntKind.u64.wrap (wrap64 (x10 + x11))) / 2))).f0.f2) ((rd_T55 x0 (wrap64 ((IntKind.u64.wrap (wrap64 (x10 + x11))) / 2))).f0.f3) ((rd_T55 x0 (wrap64 ((IntKind.u64.wrap (wrap64 (x10 + x11))) / 2))).f0.f4) ((rd_T55 x0 (wrap64 ((IntKind.u64.wrap (wrap64 (x10 + x11))) / 2))).f1) ((rd_T55 x0 x1).f0.f0) ((rd_T55 x0 x1).f0.f1) ((rd_T55 x0 x1).f0.f2) ((rd_T55 x0 x1).f0.f3) ((rd_T55 x0 x1).f0.f4) ((rd_T55 x0 x1).f1)).bind fun t137 => (if t137 < 0 then (fact_Fact_48.l0 k x0 x1 (wrap64 ((wrap64 ((IntKind.u64.wrap (wrap64 (x10 + x11))) / 2)) + 1)) x11) else (fact_Fact_48.l0 k x0 x1 x10 (wrap64 ((IntKind.u64.wrap (wrap64 (x10 + x11))) / 2))))) else (none)) else (none)) else (none)) else (none)) else (fact_Fact_48.l1 k x0 x10 x1)
def fact_Fact_48.l1 : Nat → List (S55) → Int → Int → Option ((List (S55)))
 | 0, _, _, _ => none
 | k + 1, x0, x10, x13 => if x13 < (wrap64 (x10 - 1)) then (if 0 ≤ (wrap64 (x13 + 1)) then (if (wrap64 (x13 + 1)) < (x0.length : Int) then (if 0 ≤ x13 then (if x13 < (x0.length : Int) then (fact_Fact_48.l1 k ((x0.set (x13 : Int).toNat (⟨(⟨(rd_T55 x0 (wrap64 (x13 + 1))).f0.f0, (rd_T55 x0 (wrap64 (x13 + 1))).f0.f1, (rd_T55 x0 (wrap64 (x13 + 1))).f0.f2, (rd_T55 x0 (wrap64 (x13 + 1))).f0.f3, (rd_T55 x0 (wrap64 (x13 + 1))).f0.f4⟩ : S44), (rd_T55 x0 (wrap64 (x13 + 1))).f1⟩ : S55)).set ((wrap64 (x13 + 1)) : Int).toNat (⟨(⟨(rd_T55 x0 x13).f0.f0, (rd_T55 x0 x13).f0.f1, (rd_T55 x0 x13).f0.f2, (rd_T55 x0 x13).f0.f3, (rd_T55 x0 x13).f0.f4⟩ : S44), (rd_T55 x0 x13).f1⟩ : S55)) x10 (wrap64 (x13 + 1))) else (none)) else (none)) else (none)) else (none)) else (some x0)
def fact_Fact_48.l2 : Nat → List (S55) → Int → Int → Int → Option ((List (S55)))
 | 0, _, _, _, _ => none
 | k + 1, x0, x2, x14, x15 => if x14 < x15 then (if 0 ≤ x2 then (if x2 < (x0.length : Int) then (if 0 ≤ (wrap64 ((IntKind.u64.wrap (wrap64 (x14 + x15))) / 2)) then (if (wrap64 ((IntKind.u64.wrap (wrap64 (x14 + x15))) / 2)) < (x0.length : Int) then ((fact_Of_1.f k ((rd_T55 x0 x2).f0.f0) ((rd_T55 x0 x2).f0.f1) ((rd_T55 x0 x2).f0.f2) ((rd_T55 x0 x2).f0.f3) ((rd_T55 x0 x2).f0.f4) ((rd_T55 x0 x2).f1) ((rd_T55 x0 (wrap64 ((IntKind.u64.wrap (wrap64 (x14 + x15))) / 2))).f0.f0) ((rd_T55 x0 (wrap64 ((IntKind.u64.wrap (wrap64 (x14 + x15))) / 2))).f0.f1) ((rd_T55 x0 (wrap64 ((IntKind.u64.wrap (wrap64 (x14 + x15))) / 2))).f0.f2) ((rd_T55 x0 (wrap64 ((IntKind.u64.wrap (wrap64 (x14 + x15))) / 2))).f0.f3) ((rd_T55 x0 (wrap64 ((IntKind.u64.wrap (wrap64 (x14 + x15))) / 2))).f0.f4) ((rd_T55 x0 (wrap64 ((IntKind.u64.wrap (wrap64 (x14 + x15))) / 2))).f1)).bind fun t144 => (if t144 < 0 then (fact_Fact_48.l2 k x0 x2 x14 (wrap64 ((IntKind.u64.wrap (wrap64 (x14 + x15))) / 2))) else (fact_Fact_48.l2 k x0 x2 (wrap64 ((wrap64 ((IntKind.u64.wrap (wrap64 (x14 + x15))) / 2)) + 1)) x15))) else (none)) else (none)) else (none)) else (none)) else (fact_Fact_48.l3 k x0 x14 x2)
def fact_Fact_48.l3 : Nat → List (S55) → Int → Int → Option ((List (S55)))
 | 0, _, _, _ => none
 | k + 1, x0, x14, x17 => if x17 > x14 then (if 0 ≤ (wrap64 (x17 - 1)) then (if (wrap64 (x17 - 1)) < (x0.length : Int) then (if 0 ≤ x17 then (if x17 < (x0.length : Int) then (fact_Fact_48.l3 k ((x0.set (x17 : Int).toNat (⟨(⟨(rd_T55 x0 (wrap64 (x17 - 1))).f0.f0, (rd_T55 x0 (wrap64 (x17 - 1))).f0.f1, (rd_T55 x0 (wrap64 (x17 - 1))).f0.f2, (rd_T55 x0 (wrap64 (x17 - 1))).f0.f3, (rd_T55 x0 (wrap64 (x17 - 1))).f0.f4⟩ : S44), (rd_T55 x0 (wrap64 (x17 - 1))).f1⟩ : S55)).set ((wrap64 (x17 - 1)) : Int).toNat (⟨(⟨(rd_T55 x0 x17).f0.f0, (rd_T55 x0 x17).f0.f1, (rd_T55 x0 x17).f0.f2, (rd_T55 x0 x17).f0.f3, (rd_T55 x0 x17).f0.f4⟩ : S44), (rd_T55 x0 x17).f1⟩ : S55)) x14 (wrap64 (x17 - 1))) else (none)) else (none)) else (none)) else (none)) else (some x0)
def fact_Fact_48.j4 : Nat → List (S55) → Int → Int → Int → Int → Int → Int → Int → Option ((List (S55)))
 | 0, _, _, _, _, _, _, _, _ => none
 | k + 1, x0, x1, x2, x3, x18, x19, x20, x21 => fact_Fact_48.l4 k x0 x1 x2 x3 x18 x19 x20 x21 (wrap64 (x19 - 1))
def fact_Fact_48.l4 : Nat → List (S55) → Int → Int → Int → Int → Int → Int → Int → Int → Option ((List (S55)))
 | 0, _, _, _, _, _, _, _, _, _ => none
 | k + 1, x0, x1, x2, x3, x18, x19, x20, x21, x22 => if x20 < x21 then (if 0 ≤ (wrap64 (x22 - (wrap64 ((IntKind.u64.wrap (wrap64 (x20 + x21))) / 2)))) then (if (wrap64 (x22 - (wrap64 ((IntKind.u64.wrap (wrap64 (x20 + x21))) / 2)))) < (x0.length : Int) then (if 0 ≤ (wrap64 ((IntKind.u64.wrap (wrap64 (x20 + x21))) / 2)) then (if (wrap64 ((IntKind.u64.wrap (wrap64 (x20 + x21))) / 2)) < (x0.length : Int) then ((fact_Of_1.f k ((rd_T55 x0 (wrap64 (x22 - (wrap64 ((IntKind.u64.wrap (wrap64 (x20 + x21))) / 2))))).f0.f0) ((rd_T55 x0 (wrap64 (x22 - (wrap64 ((IntKind.u64.wrap (wrap64 (x20 + x21))) / 2))))).f0.f1) ((rd_T55 x0 (wrap64 (x22 - (wrap64 ((IntKind.u64.wrap (wrap64 (x20 + x21))) / 2))))).f0.f2) ((rd_T55 x0 (wrap64 (x22 - (wrap64 ((IntKind.u64.wrap (wrap64 (x20 + x21))) / 2))))).f0.f3) ((rd_T55 x0 (wrap64 (x22 - (wrap64 ((IntKind.u64.wrap (wrap64 (x20 + x21))) / 2))))).f0.f4) ((rd_T55 x0 (wrap64 (x22 - (wrap64 ((IntKind.u64.wrap (wrap64 (x20 + x21))) / 2))))).f1) ((rd_T55 x0 (wrap64 ((IntKind.u64.wrap (wrap64 (x20 + x21))) / 2))).f0.f0) ((rd_T55 x0 (wrap64 ((IntKind.u64.wrap (wrap64 (x20 + x21))) / 2))).f0.f1) ((rd_T55 x0 (wrap64 ((IntKind.u64.wrap (wrap64 (x20 + x21))) / 2))).f0.f2) ((rd_T55 x0 (wrap64 ((IntKind.u64.wrap (wrap64 (x20 + x21))) / 2))).f0.f3) ((rd_T55 x0 (wrap64 ((IntKind.u64.wrap (wrap64 (x20 + x21))) / 2))).f0.f4) ((rd_T55 x0 (wrap64 ((IntKind.u64.wrap (wrap64 (x20 + x21))) / 2))).f1)).bind fun t151 => (if t151 < 0 then (fact_Fact_48.l4 k x0 x1 x2 x3 x18 x19 x20 (wrap64 ((IntKind.u64.wrap (wrap64 (x20 + x21))) / 2)) x22) else (fact_Fact_48.l4 k x0 x1 x2 x3 x18 x19 (wrap64 ((wrap64 ((IntKind.u64.wrap (wrap64 (x20 + x21))) / 2)) + 1)) x21 x22))) else (none)) else (none)) else (none)) else (none)) else (if x20 < x2 then (fact_Fact_48.j6 k x0 x1 x2 x3 x18 x20 (wrap64 (x19 - x20)) (decide (x2 < (wrap64 (x19 - x20))))) else (fact_Fact_48.j6 k x0 x1 x2 x3 x18 x20 (wrap64 (x19 - x20)) false))
def fact_Fact_48.j6 : Nat → List (S55) → Int → Int → Int → Int → Int → Int → Bool → Option ((List (S55)))
 | 0, _, _, _, _, _, _, _, _ => none
 | k + 1, x0, x1, x2, x3, x18, x20, x24, x185 => if x185 = true then ((fact_Fact_50.f k x0 x20 x2 x24).bind fun t152 => (fact_Fact_48.j7 k t152 x1 x3 x18 x20 x24)) else (fact_Fact_48.j7 k x0 x1 x3 x18 x20 x24)
def fact_Fact_48.j7 : Nat → List (S55) → Int → Int → Int → Int → Int → Option ((List (S55)))
 | 0, _, _, _, _, _, _ => none
 | k + 1, x0, x1, x3, x18, x20, x24 => if x1 < x20 then (fact_Fact_48.j8 k x0 x1 x3 x18 x20 x24 (decide (x20 < x18))) else (fact_Fact_48.j8 k x0 x1 x3 x18 x20 x24 false)
def fact_Fact_48.j8 : Nat → List (S55) → Int → Int → Int → Int → Int → Bool → Option ((List (S55)))
 | 0, _, _, _, _, _, _, _ => none
 | k + 1, x0, x1, x3, x18, x20, x24, x199 => if x199 = true then ((fact_Fact_48.f k x0 x1 x20 x18).bind fun t153 => (if x18 < x24 then (if x24 < x3 then ((fact_Fact_48.f k t153 x18 x24 x3).bind fun t154 => (some t154)) else (some t153)) else (some t153))) else (if x18 < x24 then (if x24 < x3 then ((fact_Fact_48.f k x0 x18 x24 x3).bind fun t155 => (some t155)) else (some x0)) else (some x0))
def fact_Fact_48.f : Nat → List (S55) → Int → Int → Int → Option ((List (S55)))
 | 0, _, _, _, _ => none
 | k + 1, l0, a1, a2, a3 => if (wrap64 (a2 - a1)) = 1 then (fact_Fact_48.l0 k l0 a1 a2 a3) else (if (wrap64 (a3 - a2)) = 1 then (fact_Fact_48.l2 k l0 a2 a1 a2) else (if a2 > (wrap64 ((IntKind.u64.wrap (wrap64 (a1 + a3))) / 2)) then (fact_Fact_48.j4 k l0 a1 a2 a3 (wrap64 ((IntKind.u64.wrap (wrap64 (a1 + a3))) / 2)) (wrap64 ((wrap64 ((IntKind.u64.wrap (wrap64 (a1 + a3))) / 2)) + a2)) (wrap64 ((wrap64 ((wrap64 ((IntKind.u64.wrap (wrap64 (a1 + a3))) / 2)) + a2)) - a3)) (wrap64 ((IntKind.u64.wrap (wrap64 (a1 + a3))) / 2))) else (fact_Fact_48.j4 k l0 a1 a2 a3 (wrap64 ((IntKind.u64.wrap (wrap64 (a1 + a3))) / 2)) (wrap64 ((wrap64 ((IntKind.u64.wrap (wrap64 (a1 + a3))) / 2)) + a2)) a1 a2)))
end
theorem fact_Fact_48.mono_l : ∀ k, (∀ y0 y1 y2 y3, LeO (fact_Fact_48.f k y0 y1 y2 y3) (fact_Fact_48.f (k + 1) y0 y1 y2 y3)) ∧ (∀ y0 y1 y2 y3, LeO (fact_Fact_48.l0 k y0 y1 y2 y3) (fact_Fact_48.l0 (k + 1) y0 y1 y2 y3)) ∧ (∀ y0 y1 y2, LeO (fact_Fact_48.l1 k y0 y1 y2) (fact_Fact_48.l1 (k + 1) y0 y1 y2)) ∧ (∀ y0 y1 y2 y3, LeO (fact_Fact_48.l2 k y0 y1 y2 y3) (fact_Fact_48.l2 (k + 1) y0 y1 y2 y3)) ∧ (∀ y0 y1 y2, LeO (fact_Fact_48.l3 k y0 y1 y2) (fact_Fact_48.l3 (k + 1) y0 y1 y2)) ∧ (∀ y0 y1 y2 y3 y4 y5 y6 y7, LeO (fact_Fact_48.j4 k y0 y1 y2 y3 y4 y5 y6 y7) (fact_Fact_48.j4 (k + 1) y0 y1 y2 y3 y4 y5 y6 y7)) ∧ (∀ y0 y1 y2 y3 y4 y5 y6 y7 y8, LeO (fact_Fact_48.l4 k y0 y1 y2 y3 y4 y5 y6 y7 y8) (fact_Fact_48.l4 (k + 1) y0 y1 y2 y3 y4 y5 y6 y7 y8)) ∧ (∀ y0 y1 y2 y3 y4 y5 y6 y7, LeO (fact_Fact_48.j6 k y0 y1 y2 y3 y4 y5 y6 y7) (fact_Fact_48.j6 (k + 1) y0 y1 y2 y3 y4 y5 y6 y7)) ∧ (∀ y0 y1 y2 y3 y4 y5, LeO (fact_Fact_48.j7 k y0 y1 y2 y3 y4 y5) (fact_Fact_48.j7 (k + 1) y0 y1 y2 y3 y4 y5)) ∧ (∀ y0 y1 y2 y3 y4 y5 y6, LeO (fact_Fact_48.j8 k y0 y1 y2 y3 y4 y5 y6) (fact_Fact_48.j8 (k + 1) y0 y1 y2 y3 y4 y5 y6))
 | 0 => ⟨fun _ _ _ _ r h => by simp [fact_Fact_48.f] at h, fun _ _ _ _ r h => by simp [fact_Fact_48.l0] at h, fun _ _ _ r h => by simp [fact_Fact_48.l1] at h, fun _ _ _ _ r h => by simp [fact_Fact_48.l2] at h, fun _ _ _ r h => by simp [fact_Fact_48.l3] at h, fun _ _ _ _ _ _ _ _ r h => by simp [fact_Fact_48.j4] at h, fun _ _ _ _ _ _ _ _ _ r h => by simp [fact_Fact_48.l4] at h, fun _ _ _ _ _ _ _ _ r h => by simp [fact_Fact_48.j6] at h, fun _ _ _ _ _ _ r h => by simp [fact_Fact_48.j7] at h, fun _ _ _ _ _ _ _ r h => by simp [fact_Fact_48.j8] at h⟩
 | k + 1 => by
  obtain ⟨ih0, ih1, ih2, ih3, ih4, ih5, ih6, ih7, ih8, ih9⟩ := fact_Fact_48.mono_l k
  refine ⟨?_, ?_, ?_, ?_, ?_, ?_, ?_, ?_, ?_, ?_⟩
  ·intro y0 y1 y2 y3
   unfold fact_Fact_48.f
   with_reducible repeat' first | apply ih0 | apply ih1 | apply ih2 | apply ih3 | apply ih4 | apply ih5 | apply ih6 | apply ih7 | apply ih8 | apply ih9 | apply fact_Fact_50.mono | apply fact_Of_1.mono | refine LeO.refl _ | refine LeO.none _ | refine LeO.ite ?_ ?_ | refine LeO.bind ?_ (fun _ => ?_)
  ·intro y0 y1 y2 y3
   unfold fact_Fact_48.l0
   with_reducible repeat' first | apply ih0 | apply ih1 | apply ih2 | apply ih3 | apply ih4 | apply ih5 | apply ih6 | apply ih7 | apply ih8 | apply ih9 | apply fact_Fact_50.mono | apply fact_Of_1.mono | refine LeO.refl _ | refine LeO.none _ | refine LeO.ite ?_ ?_ | refine LeO.bind ?_ (fun _ => ?_)
  ·intro y0 y1 y2
   unfold fact_Fact_48.l1
   with_reducible repeat' first | apply ih0 | apply ih1 | apply ih2 | apply ih3 | apply ih4 | apply ih5 | apply ih6 | apply ih7 | apply ih8 | apply ih9 | apply fact_Fact_50.mono | apply fact_Of_1.mono | refine LeO.refl _ | refine LeO.none _ | refine LeO.ite ?_ ?_ | refine LeO.bind ?_ (fun _ => ?_)
  ·intro y0 y1 y2 y3
   unfold fact_Fact_48.l2
   with_reducible repeat' first | apply ih0 | apply ih1 | apply ih2 | apply ih3 | apply ih4 | apply ih5 | apply ih6 | apply ih7 | apply ih8 | apply ih9 | apply fact_Fact_50.mono | apply fact_Of_1.mono | refine LeO.refl _ | refine LeO.none _ | refine LeO.ite ?_ ?_ | refine LeO.bind ?_ (fun _ => ?_)
  ·intro y0 y1 y2
   unfold fact_Fact_48.l3
   with_reducible repeat' first | apply ih0 | apply ih1 | apply ih2 | apply ih3 | apply ih4 | apply ih5 | apply ih6 | apply ih7 | apply ih8 | apply ih9 | apply fact_Fact_50.mono | apply fact_Of_1.mono | refine LeO.refl _ | refine LeO.none _ | refine LeO.ite ?_ ?_ | refine LeO.bind ?_ (fun _ => ?_)
  ·intro y0 y1 y2 y3 y4 y5 y6 y7
   unfold fact_Fact_48.j4
   with_reducible repeat' first | apply ih0 | apply ih1 | apply ih2 | apply ih3 | apply ih4 | apply ih5 | apply ih6 | apply ih7 | apply ih8 | apply ih9 | apply fact_Fact_50.mono | apply fact_Of_1.mono | refine LeO.refl _ | refine LeO.none _ | refine LeO.ite ?_ ?_ | refine LeO.bind ?_ (fun _ => ?_)
  ·intro y0 y1 y2 y3 y4 y5 y6 y7 y8
   unfold fact_Fact_48.l4
   with_reducible repeat' first | apply ih0 | apply ih1 | apply ih2 | apply ih3 | apply ih4 | apply ih5 | apply ih6 | apply ih7 | apply ih8 | apply ih9 | apply fact_Fact_50.mono | apply fact_Of_1.mono | refine LeO.refl _ | refine LeO.none _ | refine LeO.ite ?_ ?_ | refine LeO.bind ?_ (fun _ => ?_)
  ·intro y0 y1 y2 y3 y4 y5 y6 y7
   unfold fact_Fact_48.j6
   with_reducible repeat' first | apply ih0 | apply ih1 | apply ih2 | apply ih3 | apply ih4 | apply ih5 | apply ih6 | apply ih7 | apply ih8 | apply ih9 | apply fact_Fact_50.mono | apply fact_Of_1.mono | refine LeO.refl _ | refine LeO.none _ | refine LeO.ite ?_ ?_ | refine LeO.bind ?_ (fun _ => ?_)
  ·intro y0 y1 y2 y3 y4 y5
   unfold fact_Fact_48.j7
   with_reducible repeat' first | apply ih0 | apply ih1 | apply ih2 | apply ih3 | apply ih4 | apply ih5 | apply ih6 | apply ih7 | apply ih8 | apply ih9 | apply fact_Fact_50.mono | apply fact_Of_1.mono | refine LeO.refl _ | refine LeO.none _ | refine LeO.ite ?_ ?_ | refine LeO.bind ?_ (fun _ => ?_)
  ·intro y0 y1 y2 y3 y4 y5 y6
   unfold fact_Fact_48.j8
   with_reducible repeat' first | apply ih0 | apply ih1 | apply ih2 | apply ih3 | apply ih4 | apply ih5 | apply ih6 | apply ih7 | apply ih8 | apply ih9 | apply fact_Fact_50.mono | apply fact_Of_1.mono | refine LeO.refl _ | refine LeO.none _ | refine LeO.ite ?_ ?_ | refine LeO.bind ?_ (fun _ => ?_)
theorem fact_Fact_48.mono : ∀ a0 a1 a2 a3 k, LeO (fact_Fact_48.f k a0 a1 a2 a3) (fact_Fact_48.f (k + 1) a0 a1 a2 a3) := by
 intro a0 a1 a2 a3 k
 obtain ⟨ih0, ih1, ih2, ih3, ih4, ih5, ih6, ih7, ih8, ih9⟩ := fact_Fact_48.mono_l k
 exact ih0 a0 a1 a2 a3
def fact_Fact_48.T5 : Bool × List (List Nat × List Nat) := (true, [([], []), ([], []), ([], []), ([1, 2], [1, 2]), ([3], [3]), ([], []), ([], []), ([5, 6], [5, 6]), ([7], [7]), ([0, 4, 8], [0, 4, 8]), ([9], [9])])
def fact_Fact_48.B5 : List Nat := [0, 0, 0, 6, 14, 0, 0, 96, 224, 511, 1023]
theorem fact_Fact_48.tab5 : rtab .any (opsOf Try.f48 5) = fact_Fact_48.T5 := by kernel_rfl
theorem fact_Fact_48.bits5 : waitsOk fact_Fact_48.T5.2 fact_Fact_48.B5 = true := by kernel_rfl
def fact_Fact_48.T11 : Bool × List (List Nat × List Nat) := (true, [([], []), ([], []), ([], []), ([], []), ([3], [3]), ([], []), ([], []), ([6], [6]), ([5, 7], [5, 7]), ([8], [8]), ([], []), ([], []), ([10, 11], [10, 11]), ([12], [12]), ([0, 1, 0, 1, 5, 6, 7, 8, 9, 13], [0, 1]), ([14, 9, 0, 1, 5, 6, 7, 8, 9, 13], [9, 14]), ([2, 4, 0, 1, 2, 3, 4, 5, 6, 7, 8, 9, 10, 11, 12, 13, 14, 15], [2, 4]), ([16, 13, 15, 0, 1, 2, 3, 4, 5, 6, 7, 8, 9, 10, 11, 12, 13, 14, 15], [13, 16])])
def fact_Fact_48.B11 : List Nat := [0, 0, 0, 0, 8, 0, 0, 64, 224, 480, 0, 0, 3072, 7168, 16355, 32739, 65535, 131071]
theorem fact_Fact_48.tab11 : rtab .any (opsOf Try.f48 11) = fact_Fact_48.T11 := by kernel_rfl
theorem fact_Fact_48.bits11 : waitsOk fact_Fact_48.T11.2 fact_Fact_48.B11 = true := by kernel_rfl
def fact_Fact_48.T17 : Bool × List (List Nat × List Nat) := (true, [([], []), ([], []), ([], []), ([1, 2], [1, 2]), ([3], [3]), ([], []), ([], []), ([5, 6], [5, 6]), ([7], [7]), ([0, 4, 8], [0, 4, 8]), ([9], [9]), ([10], [10])])
def fact_Fact_48.B17 : List Nat := [0, 0, 0, 6, 14, 0, 0, 96, 224, 511, 1023, 2047]
theorem fact_Fact_48.tab17 : rtab .any (opsOf Try.f48 17) = fact_Fact_48.T17 := by kernel_rfl
theorem fact_Fact_48.bits17 : waitsOk fact_Fact_48.T17.2 fact_Fact_48.B17 = true := by kernel_rfl
def fact_Fact_48.T23 : Bool × List (List Nat × List Nat) := (true, [([], []), ([], []), ([], []), ([], []), ([3], [3]), ([], []), ([], []), ([6], [6]), ([5, 7], [5, 7]), ([8], [8]), ([], []), ([], []), ([10, 11], [10, 11]), ([12], [12]), ([0, 1, 0, 1, 5, 6, 7, 8, 9, 13], [0, 1]), ([14, 9, 0, 1, 5, 6, 7, 8, 9, 13], [9, 14]), ([2, 4, 0, 1, 2, 3, 4, 5, 6, 7, 8, 9, 10, 11, 12, 13, 14, 15], [2, 4]), ([16, 13, 15, 0, 1, 2, 3, 4, 5, 6, 7, 8, 9, 10, 11, 12, 13, 14, 15], [13, 16])])
def fact_Fact_48.B23 : List Nat := [0, 0, 0, 0, 8, 0, 0, 64, 224, 480, 0, 0, 3072, 7168, 16355, 32739, 65535, 131071]
theorem fact_Fact_48.tab23 : rtab .any (opsOf Try.f48 23) = fact_Fact_48.T23 := by kernel_rfl
theorem fact_Fact_48.bits23 : waitsOk fact_Fact_48.T23.2 fact_Fact_48.B23 = true := by kernel_rfl
def fact_Fact_48.T35 : Bool × List (List Nat × List Nat) := (true, [([], []), ([], []), ([], []), ([], []), ([2, 3], [2, 3]), ([1, 4], [1, 4]), ([5], [5]), ([], []), ([], []), ([7, 8], [7, 8]), ([9], [9]), ([0, 6, 10], [0, 6, 10]), ([11], [11]), ([12], [12])])
def fact_Fact_48.B35 : List Nat := [0, 0, 0, 0, 12, 30, 62, 0, 0, 384, 896, 2047, 4095, 8191]
theorem fact_Fact_48.tab35 : rtab .any (opsOf Try.f48 35) = fact_Fact_48.T35 := by kernel_rfl
theorem fact_Fact_48.bits35 : waitsOk fact_Fact_48.T35.2 fact_Fact_48.B35 = true := by kernel_rfl
/-- What is said of function 48 with so many rounds. -/
abbrev fact_Fact_48.Said (k : Nat) : Prop := ∀ (P0_ : Nat → Prop) (u9000_ : Value) (l0 : List (S55)) (a1 : Int) (a2 : Int) (a3 : Int)  (r : List (S55)) (w0 w : World) (hB : Below w0.heap.size w0 w) (ho0 : Kd.R k55 55 w w0.heap.size P0_ u9000_ l0) (h : fact_Fact_48.f k l0 a1 a2 a3 = some r), Calls Try.prog 48 #[u9000_, .int .i64 a1, .int .i64 a2, .int .i64 a3, .func (.func 34) #[] #[]] w fun e w' => e = .returned (.tuple #[]) ∧ Kd.R k55 55 w' w0.heap.size (fun k_ => (P0_ k_ ∨ w.heap.size ≤ k_)) u9000_ r ∧ Below w0.heap.size w0 w' ∧ Kept w w' (fun k_ => P0_ k_)
end Go.Proofs.Ytdckeflggcefbaa.Y
