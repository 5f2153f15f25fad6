/- Plain Lean functions with the answers of the program's functions, and proofs that the machine's calls come to them; lines written by a program for this claim. The merge of two sorted stretches, whole, and the stable sort. Plain Lean. slices.SortStableFunc at facts sorts, and facts of one key stand as they stood. Plain Lean. The iterator over the runs of equal keys: what it hands to each round, and what it leaves. Its conditions: the rounds keep what the two invariants say. The library's slices.Clone at facts: a new row of the same facts; nothing that was there is turned. Its condition: the row's bytes fit the machine. The plain answers of fact.Of, and what stays of the memory while its loop runs. fact.Of's runs, of facts that are sorted: the cube. Plain Lean. No conditions. -/
import Derived.RangeFuncLeaves
import Derived.RangeFuncCalls
import Derived.Shelf.Abstract
import Derived.OwnWalkIn
import Derived.TacticsInMore
import Derived.LoopNIn
import Derived.LoopIn
import Derived.Sort.LoopGhostIn
import Derived.Sort.QuietIn
import Derived.WalkSpells
import Derived.Test.YtdckeflggcefbaaO1
import Derived.Test.YtdckeflggcefbaaO2
import Derived.Test.YtdckeflggcefbaaO4
import Derived.Test.YtdckeflggcefbaaO5
import Derived.Test.YtdckeflggcefbaaO6
import Derived.Test.YtdckeflggcefbaaO7
namespace Go.Proofs.Ytdckeflggcefbaa.Y
open Go.RowKit Go.Proofs.YtdckeflggcefbaaW.PrintWords Go.Proofs.YtdckeflggcefbaaW.PrintLast Go.Proofs.YtdckeflggcefbaaW.PrintMore
attribute [local go_sem] max2_int min2_int max_two min_two max_three min_three max_four min_four   -- for this text's walks alone
set_option linter.unusedVariables false
set_option linter.unusedSimpArgs false

theorem fact_Fact_48.calls (k : Nat) : ∀ (P0_ : Nat → Prop) (u9000_ : Value) (l0 : List (S55)) (a1 : Int) (a2 : Int) (a3 : Int)  (r : List (S55)) (w0 w : World) (hB : Below w0.heap.size w0 w) (ho0 : Kd.R k55 55 w w0.heap.size P0_ u9000_ l0) (h : fact_Fact_48.f k l0 a1 a2 a3 = some r),
  Calls Try.prog 48 #[u9000_, .int .i64 a1, .int .i64 a2, .int .i64 a3, .func (.func 34) #[] #[]] w fun e w' => e = .returned (.tuple #[]) ∧ Kd.R k55 55 w' w0.heap.size (fun k_ => (P0_ k_ ∨ w.heap.size ≤ k_)) u9000_ r ∧ Below w0.heap.size w0 w' ∧ Kept w w' (fun k_ => P0_ k_) := by
 induction k using Nat.strongRecOn with
 | _ k ih =>
 intro P0_ u9000_ l0 a1 a2 a3 r w0 w hB ho0 h
 cases k with
 | zero => exact absurd h (by simp [fact_Fact_48.f])
 | succ k =>
 by_cases hA : (wrap64 (a2 - a1)) = 1
 ·exact fact_Fact_48.partA k ih P0_ u9000_ l0 a1 a2 a3 r w0 w hB ho0 h ⟨hA⟩
 ·by_cases hB2 : (wrap64 (a3 - a2)) = 1
  ·exact fact_Fact_48.partB k ih P0_ u9000_ l0 a1 a2 a3 r w0 w hB ho0 h ⟨hA⟩ ⟨hB2⟩
  ·exact fact_Fact_48.partC k ih P0_ u9000_ l0 a1 a2 a3 r w0 w hB ho0 h ⟨hA⟩ ⟨hB2⟩
/-! ### fact_Fact_43: function 43 -/
mutual
def fact_Fact_43.l0 : Nat → List (S55) → Int → Int → Int → Int → Option ((List (S55)))
 | 0, _, _, _, _, _ => none
 | k + 1, x0, x1, x6, x7, x8 => if x8 ≤ x1 then ((fact_Fact_47.f k x0 x7 x8).bind fun t156 => (fact_Fact_43.l0 k t156 x1 x6 x8 (wrap64 (x8 + x6)))) else ((fact_Fact_47.f k x0 x7 x1).bind fun t157 => (fact_Fact_43.l1 k t157 x1 x6))
def fact_Fact_43.l1 : Nat → List (S55) → Int → Int → Option ((List (S55)))
 | 0, _, _, _ => none
 | k + 1, x0, x1, x6 => if x6 < x1 then (fact_Fact_43.l2 k x0 x1 x6 0 (wrap64 (2 * x6))) else (some x0)
def fact_Fact_43.l2 : Nat → List (S55) → Int → Int → Int → Int → Option ((List (S55)))
 | 0, _, _, _, _, _ => none
 | k + 1, x0, x1, x6, x7, x8 => if x8 ≤ x1 then ((fact_Fact_48.f k x0 x7 (wrap64 (x7 + x6)) x8).bind fun t158 => (fact_Fact_43.l2 k t158 x1 x6 x8 (wrap64 (x8 + (wrap64 (2 * x6)))))) else (if (wrap64 (x7 + x6)) < x1 then ((fact_Fact_48.f k x0 x7 (wrap64 (x7 + x6)) x1).bind fun t159 => (fact_Fact_43.l1 k t159 x1 (wrap64 (x6 * 2)))) else (fact_Fact_43.l1 k x0 x1 (wrap64 (x6 * 2))))
end
def fact_Fact_43.f (k : Nat) (l0 : List (S55)) (a1 : Int)  : Option ((List (S55))) := fact_Fact_43.l0 k l0 a1 20 0 20
theorem fact_Fact_43.mono_l : ∀ k, (∀ y0 y1 y2 y3 y4, LeO (fact_Fact_43.l0 k y0 y1 y2 y3 y4) (fact_Fact_43.l0 (k + 1) y0 y1 y2 y3 y4)) ∧ (∀ y0 y1 y2, LeO (fact_Fact_43.l1 k y0 y1 y2) (fact_Fact_43.l1 (k + 1) y0 y1 y2)) ∧ (∀ y0 y1 y2 y3 y4, LeO (fact_Fact_43.l2 k y0 y1 y2 y3 y4) (fact_Fact_43.l2 (k + 1) y0 y1 y2 y3 y4))
 | 0 => ⟨fun _ _ _ _ _ r h => by simp [fact_Fact_43.l0] at h, fun _ _ _ r h => by simp [fact_Fact_43.l1] at h, fun _ _ _ _ _ r h => by simp [fact_Fact_43.l2] at h⟩
 | k + 1 => by
  obtain ⟨ih0, ih1, ih2⟩ := fact_Fact_43.mono_l k
  refine ⟨?_, ?_, ?_⟩
  ·intro y0 y1 y2 y3 y4
   unfold fact_Fact_43.l0
   repeat' first
   | (with_reducible exact ih0 _ _ _ _ _)
   | (with_reducible exact ih1 _ _ _)
   | (with_reducible exact ih2 _ _ _ _ _)
   | (with_reducible exact fact_Fact_47.mono _ _ _ _)
   | (with_reducible exact fact_Fact_48.mono _ _ _ _ _)
   | (with_reducible exact LeO.refl _)
   | (with_reducible exact LeO.none _)
   | (with_reducible refine LeO.ite ?_ ?_)
   | (with_reducible refine LeO.bind ?_ (fun _ => ?_))
   | exact ih0 _ _ _ _ _
   | exact ih1 _ _ _
   | exact ih2 _ _ _ _ _
   | exact fact_Fact_47.mono _ _ _ _
   | exact fact_Fact_48.mono _ _ _ _ _
   | exact LeO.none _
   | refine LeO.ite ?_ ?_
   | refine LeO.bind ?_ (fun _ => ?_)
  ·intro y0 y1 y2
   unfold fact_Fact_43.l1
   repeat' first
   | (with_reducible exact ih0 _ _ _ _ _)
   | (with_reducible exact ih1 _ _ _)
   | (with_reducible exact ih2 _ _ _ _ _)
   | (with_reducible exact fact_Fact_47.mono _ _ _ _)
   | (with_reducible exact fact_Fact_48.mono _ _ _ _ _)
   | (with_reducible exact LeO.refl _)
   | (with_reducible exact LeO.none _)
   | (with_reducible refine LeO.ite ?_ ?_)
   | (with_reducible refine LeO.bind ?_ (fun _ => ?_))
   | exact ih0 _ _ _ _ _
   | exact ih1 _ _ _
   | exact ih2 _ _ _ _ _
   | exact fact_Fact_47.mono _ _ _ _
   | exact fact_Fact_48.mono _ _ _ _ _
   | exact LeO.none _
   | refine LeO.ite ?_ ?_
   | refine LeO.bind ?_ (fun _ => ?_)
  ·intro y0 y1 y2 y3 y4
   unfold fact_Fact_43.l2
   repeat' first
   | (with_reducible exact ih0 _ _ _ _ _)
   | (with_reducible exact ih1 _ _ _)
   | (with_reducible exact ih2 _ _ _ _ _)
   | (with_reducible exact fact_Fact_47.mono _ _ _ _)
   | (with_reducible exact fact_Fact_48.mono _ _ _ _ _)
   | (with_reducible exact LeO.refl _)
   | (with_reducible exact LeO.none _)
   | (with_reducible refine LeO.ite ?_ ?_)
   | (with_reducible refine LeO.bind ?_ (fun _ => ?_))
   | exact ih0 _ _ _ _ _
   | exact ih1 _ _ _
   | exact ih2 _ _ _ _ _
   | exact fact_Fact_47.mono _ _ _ _
   | exact fact_Fact_48.mono _ _ _ _ _
   | exact LeO.none _
   | refine LeO.ite ?_ ?_
   | refine LeO.bind ?_ (fun _ => ?_)
theorem fact_Fact_43.mono : ∀ a0 a1 k, LeO (fact_Fact_43.f k a0 a1) (fact_Fact_43.f (k + 1) a0 a1) := by
 intro a0 a1 k
 obtain ⟨ih0, ih1, ih2⟩ := fact_Fact_43.mono_l k
 unfold fact_Fact_43.f
 repeat' first
   | (with_reducible exact ih0 _ _ _ _ _)
   | (with_reducible exact ih1 _ _ _)
   | (with_reducible exact ih2 _ _ _ _ _)
   | (with_reducible exact fact_Fact_47.mono _ _ _ _)
   | (with_reducible exact fact_Fact_48.mono _ _ _ _ _)
   | (with_reducible exact LeO.refl _)
   | (with_reducible exact LeO.none _)
   | (with_reducible refine LeO.ite ?_ ?_)
   | (with_reducible refine LeO.bind ?_ (fun _ => ?_))
   | exact ih0 _ _ _ _ _
   | exact ih1 _ _ _
   | exact ih2 _ _ _ _ _
   | exact fact_Fact_47.mono _ _ _ _
   | exact fact_Fact_48.mono _ _ _ _ _
   | exact LeO.none _
   | refine LeO.ite ?_ ?_
   | refine LeO.bind ?_ (fun _ => ?_)
set_option maxHeartbeats 8000000 in
set_option maxRecDepth 100000 in
theorem fact_Fact_43.calls (k : Nat) (P0_ : Nat → Prop) (u9000_ : Value) (l0 : List (S55)) (a1 : Int)  (r : List (S55)) (w0 w : World) (hB : Below w0.heap.size w0 w) (ho0 : Kd.R k55 55 w w0.heap.size P0_ u9000_ l0) (h : fact_Fact_43.f k l0 a1 = some r) :
  Calls Try.prog 43 #[u9000_, .int .i64 a1, .func (.func 34) #[] #[]] w fun e w' => e = .returned (.tuple #[]) ∧ Kd.R k55 55 w' w0.heap.size (fun k_ => (P0_ k_ ∨ w.heap.size ≤ k_)) u9000_ r ∧ Below w0.heap.size w0 w' ∧ Kept w w' (fun k_ => P0_ k_) := by
 have HO0 := Aside0.mk (show Kd.R k55 55 w w0.heap.size (fun k_ => (P0_ k_ ∨ w.heap.size ≤ k_)) u9000_ l0 from Kd.R_mono ho0 (fun k_ hk => (.inl hk)))
 have HK := Aside0.mk (Kept.refl w (fun k_ => P0_ k_))
 have HW0 := Aside0.mk hB.size
 have HB := Aside0.mk hB
 clear hB
 have H : (fact_Fact_43.l0 k l0 a1 20 0 20) = some r := h
 clear h
 have H' := Aside0.mk H
 clear H
 go_enter Try.func43, Try.ntmps43
 go_wp2
 go_loopg [7, 8] k (fun kq v7 v8 w' => ∃ (x0_1 : List (S55)) (x7_1 : Int) (x8_1 : Int), v7 = .int .i64 x7_1 ∧ v8 = .int .i64 x8_1 ∧ Aside0 (fact_Fact_43.l0 kq x0_1 a1 20 x7_1 x8_1 = some r) ∧ Aside0 (kq ≤ k) ∧ Aside0 (Kd.R k55 55 w' w0.heap.size (fun k_ => (P0_ k_ ∨ w.heap.size ≤ k_)) u9000_ x0_1) ∧ Aside0 (Kept w w' (fun k_ => P0_ k_)) ∧ Aside0 (Below w0.heap.size w0 w'))
 case atStart => exact ⟨(l0), (0), (20), rs_, rs_, H', ⟨Nat.le_refl _⟩, ⟨by (with_reducible repeat (first | apply Kd.R_alloc | apply Kd.R_drewN | apply Kd.R_drew)); exact HO0.out⟩, ⟨by repeat (first | (with_reducible first | exact HK.out | apply Kept.alloc | apply Kept.drewN | apply Kept.drew) | exact HK.out)⟩, ⟨bw⟩⟩
 case round =>
  clear H'
  try clear p2
  obtain ⟨x0_1, x7_1, x8_1, rfl, rfl, HA, HK1, HO_0, HK, HB⟩ := hrel
  cases gk with
  | zero => exact absurd HA.out (by simp [fact_Fact_43.l0])
  | succ k1 =>
   have H := HA.out
   clear HA
   simp only [fact_Fact_43.l0] at H
   by_cases c4 : x8_1 ≤ a1
   ·rw [if_pos c4] at H
    have c4b0 : decide (x8_1 ≤ a1) = true := decide_eq_true c4
    clear c4
    replace H := Option.bind_eq_some_iff.mp H
    obtain ⟨t156, A50, H⟩ := H
    replace H : (fact_Fact_43.l0 k1 t156 a1 20 x8_1 (wrap64 (x8_1 + 20))) = some r := H
    have A5 := Aside0.mk A50
    clear A50
    have H' := Aside0.mk H
    clear H
    obtain ⟨Ao6, co6, eo6⟩ := Kd.R_slice HO_0.out
    subst eo6
    go_wp2_with (first | ((with_reducible refine gate_callee (f := 47) rfl ?_); refine goesL_ (some 18) rfl rfl Try.func47 (by kernel_rfl) rfl #[.slice Ao6 x0_1.length co6, .int .i64 x7_1, .int .i64 x8_1, .func (.func 34) #[] #[]] rfl mp_ ?_; (with_reducible refine (fact_Fact_47.calls k1 (fun k_ => some k_ = (.slice Ao6 x0_1.length co6 : Value).ownBlock) (.slice Ao6 x0_1.length co6) x0_1 x7_1 x8_1  t156 w0 _ ?side1 ?side2 A5.out).mono ?_); (case side1 => repeat (first | (with_reducible first | exact HB.out | apply below_alloc | apply pw_below_drewN | apply below_drew1) | exact HB.out)); (case side2 => exact Kd.R_tight rfl HO_0.out); rintro e w7 ⟨rfl, hy0, hb, hkp⟩; refine ⟨_, rfl, ?_⟩; have n0_ := Aside0.mk (Kd.R_reok rfl hy0 (fun k_ e_ => HO_0.out.1 k_ e_)); have n1_ := Aside0.mk (Kept.then_ (S := (fun k_ => P0_ k_)) (by repeat (first | (with_reducible first | exact HK.out | apply Kept.alloc | apply Kept.drewN | apply Kept.drew) | exact HK.out)) hkp (fun k_ hs_ => (fun e_ => (HO_0.out.1 k_ e_.symm)) hs_)); have n2_ := Aside0.mk (hb); clear HO_0; clear HK; clear HB; have HO_0 := n0_; have HK := n1_; have HB := n2_; clear n0_ n1_ n2_; (try clear hb); (try clear hkp); (try clear hy0)))
    go_roundg k1
    case measure => have := HK1.out; omega
    case rel => exact ⟨(t156), (x8_1), (wrap64 (x8_1 + 20)), rs_, rs_, H', ⟨by have := HK1.out; omega⟩, ⟨by (with_reducible repeat (first | apply Kd.R_alloc | apply Kd.R_drewN | apply Kd.R_drew)); exact HO_0.out⟩, ⟨by repeat (first | (with_reducible first | exact HK.out | apply Kept.alloc | apply Kept.drewN | apply Kept.drew) | exact HK.out)⟩, ⟨bw⟩⟩
   ·rw [if_neg c4] at H
    have c4b0 : decide (x8_1 ≤ a1) = false := decide_eq_false c4
    clear c4
    replace H := Option.bind_eq_some_iff.mp H
    obtain ⟨t157, A80, H⟩ := H
    replace H : (fact_Fact_43.l1 k1 t157 a1 20) = some r := H
    have A8 := Aside0.mk A80
    clear A80
    have H' := Aside0.mk H
    clear H
    obtain ⟨Ao9, co9, eo9⟩ := Kd.R_slice HO_0.out
    subst eo9
    go_wp2_with (first | ((with_reducible refine gate_callee (f := 47) rfl ?_); refine goesL_ (some 27) rfl rfl Try.func47 (by kernel_rfl) rfl #[.slice Ao9 x0_1.length co9, .int .i64 x7_1, .int .i64 a1, .func (.func 34) #[] #[]] rfl mp_ ?_; (with_reducible refine (fact_Fact_47.calls k1 (fun k_ => some k_ = (.slice Ao9 x0_1.length co9 : Value).ownBlock) (.slice Ao9 x0_1.length co9) x0_1 x7_1 a1  t157 w0 _ ?side1 ?side2 A8.out).mono ?_); (case side1 => repeat (first | (with_reducible first | exact HB.out | apply below_alloc | apply pw_below_drewN | apply below_drew1) | exact HB.out)); (case side2 => exact Kd.R_tight rfl HO_0.out); rintro e w10 ⟨rfl, hy0, hb, hkp⟩; refine ⟨_, rfl, ?_⟩; have n0_ := Aside0.mk (Kd.R_reok rfl hy0 (fun k_ e_ => HO_0.out.1 k_ e_)); have n1_ := Aside0.mk (Kept.then_ (S := (fun k_ => P0_ k_)) (by repeat (first | (with_reducible first | exact HK.out | apply Kept.alloc | apply Kept.drewN | apply Kept.drew) | exact HK.out)) hkp (fun k_ hs_ => (fun e_ => (HO_0.out.1 k_ e_.symm)) hs_)); have n2_ := Aside0.mk (hb); clear HO_0; clear HK; clear HB; have HO_0 := n0_; have HK := n1_; have HB := n2_; clear n0_ n1_ n2_; (try clear hb); (try clear hkp); (try clear hy0)))
    simp only [Act.put, List.setIfInBounds_toArray, List.set_cons_zero, List.set_cons_succ]
    go_loopg [6] k1 (fun kq v6 w' => ∃ (x0_2 : List (S55)) (x6_2 : Int), v6 = .int .i64 x6_2 ∧ Aside0 (fact_Fact_43.l1 kq x0_2 a1 x6_2 = some r) ∧ Aside0 (kq ≤ k1) ∧ Aside0 (Kd.R k55 55 w' w0.heap.size (fun k_ => (P0_ k_ ∨ w.heap.size ≤ k_)) (.slice Ao9 x0_1.length co9) x0_2) ∧ Aside0 (Kept w w' (fun k_ => P0_ k_)) ∧ Aside0 (Below w0.heap.size w0 w'))
    case atStart => exact ⟨(t157), (20), rs_, H', ⟨Nat.le_refl _⟩, ⟨by (with_reducible repeat (first | apply Kd.R_alloc | apply Kd.R_drewN | apply Kd.R_drew)); exact HO_0.out⟩, ⟨by repeat (first | (with_reducible first | exact HK.out | apply Kept.alloc | apply Kept.drewN | apply Kept.drew) | exact HK.out)⟩, ⟨bw⟩⟩
    case round =>
     clear H'
     try clear p2
     try clear c4
     try clear c4b0
     try clear p6
     try clear p2
     obtain ⟨x0_2, x6_2, rfl, HA, HK2, HO_0, HK, HB⟩ := hrel
     have hl0_2 := (Kd.R_reads' HO_0.out).1
     rw [hl0_2] at HO_0
     (try simp only [hl0_2])
     cases gk with
     | zero => exact absurd HA.out (by simp [fact_Fact_43.l1])
     | succ k2 =>
      have H := HA.out
      clear HA
      simp only [fact_Fact_43.l1] at H
      by_cases c11 : x6_2 < a1
      ·rw [if_pos c11] at H
       have c11b0 : decide (x6_2 < a1) = true := decide_eq_true c11
       clear c11
       have H' := Aside0.mk H
       clear H
       go_wp2
       go_loopg [7, 8] k2 (fun kq v7 v8 w' => ∃ (x0_3 : List (S55)) (x7_3 : Int) (x8_3 : Int), v7 = .int .i64 x7_3 ∧ v8 = .int .i64 x8_3 ∧ Aside0 (fact_Fact_43.l2 kq x0_3 a1 x6_2 x7_3 x8_3 = some r) ∧ Aside0 (kq ≤ k2) ∧ Aside0 (Kd.R k55 55 w' w0.heap.size (fun k_ => (P0_ k_ ∨ w.heap.size ≤ k_)) (.slice Ao9 x0_2.length co9) x0_3) ∧ Aside0 (Kept w w' (fun k_ => P0_ k_)) ∧ Aside0 (Below w0.heap.size w0 w'))
       case atStart => exact ⟨(x0_2), (0), (wrap64 (2 * x6_2)), rs_, rs_, H', ⟨Nat.le_refl _⟩, ⟨by (try simp only [hl0_2]); (with_reducible repeat (first | apply Kd.R_alloc | apply Kd.R_drewN | apply Kd.R_drew)); exact HO_0.out⟩, ⟨by repeat (first | (with_reducible first | exact HK.out | apply Kept.alloc | apply Kept.drewN | apply Kept.drew) | exact HK.out)⟩, ⟨bw⟩⟩
       case round =>
        clear H'
        try clear c1
        try clear p2
        try clear c4
        try clear c4b0
        try clear p6
        try clear c11
        try clear c11b0
        try clear p2
        try clear p6
        obtain ⟨x0_3, x7_3, x8_3, rfl, rfl, HA, HK3, HO_0, HK, HB⟩ := hrel
        have hl0_3 := (Kd.R_reads' HO_0.out).1
        rw [hl0_3] at HO_0
        (try simp only [hl0_3])
        cases gk with
        | zero => exact absurd HA.out (by simp [fact_Fact_43.l2])
        | succ k3 =>
         have H := HA.out
         clear HA
         simp only [fact_Fact_43.l2] at H
         by_cases c12 : x8_3 ≤ a1
         ·rw [if_pos c12] at H
          have c12b0 : decide (x8_3 ≤ a1) = true := decide_eq_true c12
          clear c12
          replace H := Option.bind_eq_some_iff.mp H
          obtain ⟨t158, A130, H⟩ := H
          replace H : (fact_Fact_43.l2 k3 t158 a1 x6_2 x8_3 (wrap64 (x8_3 + (wrap64 (2 * x6_2))))) = some r := H
          have A13 := Aside0.mk A130
          clear A130
          have H' := Aside0.mk H
          clear H
          go_wp2_with (first | ((with_reducible refine gate_callee (f := 48) rfl ?_); refine goesL_ (some 43) rfl rfl Try.func48 (by kernel_rfl) rfl #[.slice Ao9 x0_3.length co9, .int .i64 x7_3, .int .i64 (wrap64 (x7_3 + x6_2)), .int .i64 x8_3, .func (.func 34) #[] #[]] rfl mp_ ?_; (with_reducible refine (fact_Fact_48.calls k3 (fun k_ => some k_ = (.slice Ao9 x0_3.length co9 : Value).ownBlock) (.slice Ao9 x0_3.length co9) x0_3 x7_3 (wrap64 (x7_3 + x6_2)) x8_3  t158 w0 _ ?side1 ?side2 A13.out).mono ?_); (case side1 => repeat (first | (with_reducible first | exact HB.out | apply below_alloc | apply pw_below_drewN | apply below_drew1) | exact HB.out)); (case side2 => exact Kd.R_tight rfl HO_0.out); rintro e w14 ⟨rfl, hy0, hb, hkp⟩; refine ⟨_, rfl, ?_⟩; have n0_ := Aside0.mk (Kd.R_reok rfl hy0 (fun k_ e_ => HO_0.out.1 k_ e_)); have n1_ := Aside0.mk (Kept.then_ (S := (fun k_ => P0_ k_)) (by repeat (first | (with_reducible first | exact HK.out | apply Kept.alloc | apply Kept.drewN | apply Kept.drew) | exact HK.out)) hkp (fun k_ hs_ => (fun e_ => (HO_0.out.1 k_ e_.symm)) hs_)); have n2_ := Aside0.mk (hb); clear HO_0; clear HK; clear HB; have HO_0 := n0_; have HK := n1_; have HB := n2_; clear n0_ n1_ n2_; (try clear hb); (try clear hkp); (try clear hy0)))
          (try simp only [← hl0_3])
          go_roundg k3
          case measure => have := HK1.out; have := HK2.out; have := HK3.out; omega
          case rel => exact ⟨(t158), (x8_3), (wrap64 (x8_3 + (wrap64 (2 * x6_2)))), rs_, rs_, H', ⟨by have := HK1.out; have := HK2.out; have := HK3.out; omega⟩, ⟨by (try simp only [hl0_2]); (try simp only [hl0_3]); (with_reducible repeat (first | apply Kd.R_alloc | apply Kd.R_drewN | apply Kd.R_drew)); exact HO_0.out⟩, ⟨by repeat (first | (with_reducible first | exact HK.out | apply Kept.alloc | apply Kept.drewN | apply Kept.drew) | exact HK.out)⟩, ⟨bw⟩⟩
         ·rw [if_neg c12] at H
          have c12b0 : decide (x8_3 ≤ a1) = false := decide_eq_false c12
          clear c12
          by_cases c15 : (wrap64 (x7_3 + x6_2)) < a1
          ·rw [if_pos c15] at H
           have c15b0 : decide ((wrap64 (x7_3 + x6_2)) < a1) = true := decide_eq_true c15
           clear c15
           replace H := Option.bind_eq_some_iff.mp H
           obtain ⟨t159, A160, H⟩ := H
           replace H : (fact_Fact_43.l1 k3 t159 a1 (wrap64 (x6_2 * 2))) = some r := H
           have A16 := Aside0.mk A160
           clear A160
           have H' := Aside0.mk H
           clear H
           go_wp2_with (first | ((with_reducible refine gate_callee (f := 48) rfl ?_); refine goesL_ (some 60) rfl rfl Try.func48 (by kernel_rfl) rfl #[.slice Ao9 x0_3.length co9, .int .i64 x7_3, .int .i64 (wrap64 (x7_3 + x6_2)), .int .i64 a1, .func (.func 34) #[] #[]] rfl mp_ ?_; (with_reducible refine (fact_Fact_48.calls k3 (fun k_ => some k_ = (.slice Ao9 x0_3.length co9 : Value).ownBlock) (.slice Ao9 x0_3.length co9) x0_3 x7_3 (wrap64 (x7_3 + x6_2)) a1  t159 w0 _ ?side1 ?side2 A16.out).mono ?_); (case side1 => repeat (first | (with_reducible first | exact HB.out | apply below_alloc | apply pw_below_drewN | apply below_drew1) | exact HB.out)); (case side2 => exact Kd.R_tight rfl HO_0.out); rintro e w17 ⟨rfl, hy0, hb, hkp⟩; refine ⟨_, rfl, ?_⟩; have n0_ := Aside0.mk (Kd.R_reok rfl hy0 (fun k_ e_ => HO_0.out.1 k_ e_)); have n1_ := Aside0.mk (Kept.then_ (S := (fun k_ => P0_ k_)) (by repeat (first | (with_reducible first | exact HK.out | apply Kept.alloc | apply Kept.drewN | apply Kept.drew) | exact HK.out)) hkp (fun k_ hs_ => (fun e_ => (HO_0.out.1 k_ e_.symm)) hs_)); have n2_ := Aside0.mk (hb); clear HO_0; clear HK; clear HB; have HO_0 := n0_; have HK := n1_; have HB := n2_; clear n0_ n1_ n2_; (try clear hb); (try clear hkp); (try clear hy0)))
           (try simp only [← hl0_2, ← hl0_3])
           go_roundg k3
           case measure => have := HK1.out; have := HK2.out; have := HK3.out; omega
           case rel => exact ⟨(t159), (wrap64 (x6_2 * 2)), rs_, H', ⟨by have := HK1.out; have := HK2.out; have := HK3.out; omega⟩, ⟨by (try simp only [hl0_2]); (try simp only [hl0_3]); (with_reducible repeat (first | apply Kd.R_alloc | apply Kd.R_drewN | apply Kd.R_drew)); exact HO_0.out⟩, ⟨by repeat (first | (with_reducible first | exact HK.out | apply Kept.alloc | apply Kept.drewN | apply Kept.drew) | exact HK.out)⟩, ⟨bw⟩⟩
          ·rw [if_neg c15] at H
           have c15b0 : decide ((wrap64 (x7_3 + x6_2)) < a1) = false := decide_eq_false c15
           clear c15
           have H' := Aside0.mk H
           clear H
           go_wp2
           (try simp only [← hl0_2, ← hl0_3])
           go_roundg k3
           case measure => have := HK1.out; have := HK2.out; have := HK3.out; omega
           case rel => exact ⟨(x0_3), (wrap64 (x6_2 * 2)), rs_, H', ⟨by have := HK1.out; have := HK2.out; have := HK3.out; omega⟩, ⟨by (try simp only [hl0_2]); (try simp only [hl0_3]); (with_reducible repeat (first | apply Kd.R_alloc | apply Kd.R_drewN | apply Kd.R_drew)); exact HO_0.out⟩, ⟨by repeat (first | (with_reducible first | exact HK.out | apply Kept.alloc | apply Kept.drewN | apply Kept.drew) | exact HK.out)⟩, ⟨bw⟩⟩
      ·rw [if_neg c11] at H
       have c11b0 : decide (x6_2 < a1) = false := decide_eq_false c11
       clear c11
       obtain rfl := Option.some.inj H
       go_wp2
       first | go_end0 | ((try simp only [Exit.inBlock, Exit.then]); refine bodyPost_ret (results_none rfl _ _ _) rfl ?_)
       exact ⟨re_, (by first | exact (kr HO_0) | (simp only [hl0_2]; exact (kr HO_0))), by repeat (first | (with_reducible first | exact HB.out | apply below_alloc | apply pw_below_drewN | apply below_drew1) | exact HB.out), by repeat (first | (with_reducible first | exact HK.out | apply Kept.alloc | apply Kept.drewN | apply Kept.drew) | exact HK.out)⟩
/-! ### fact_Fact_33: function 33 -/
def fact_Fact_33.f (k : Nat) (l0 : List (S55))  : Option ((List (S55))) := (fact_Fact_43.f k l0 (l0.length : Int)).bind fun t160 => (some t160)
theorem fact_Fact_33.mono : ∀ a0 k, LeO (fact_Fact_33.f k a0) (fact_Fact_33.f (k + 1) a0) := by
 intro a0 k
 unfold fact_Fact_33.f
 repeat' first
   | (with_reducible exact fact_Fact_43.mono _ _ _)
   | (with_reducible exact LeO.refl _)
   | (with_reducible exact LeO.none _)
   | (with_reducible refine LeO.ite ?_ ?_)
   | (with_reducible refine LeO.bind ?_ (fun _ => ?_))
   | exact fact_Fact_43.mono _ _ _
   | exact LeO.none _
   | refine LeO.ite ?_ ?_
   | refine LeO.bind ?_ (fun _ => ?_)
set_option maxHeartbeats 8000000 in
set_option maxRecDepth 100000 in
theorem fact_Fact_33.calls (k : Nat) (P0_ : Nat → Prop) (u9000_ : Value) (l0 : List (S55))  (r : List (S55)) (w0 w : World) (hB : Below w0.heap.size w0 w) (ho0 : Kd.R k55 55 w w0.heap.size P0_ u9000_ l0) (h : fact_Fact_33.f k l0 = some r) :
  Calls Try.prog 33 #[u9000_, .func (.func 34) #[] #[]] w fun e w' => e = .returned (.tuple #[]) ∧ Kd.R k55 55 w' w0.heap.size (fun k_ => (P0_ k_ ∨ w.heap.size ≤ k_)) u9000_ r ∧ Below w0.heap.size w0 w' ∧ Kept w w' (fun k_ => P0_ k_) := by
 have HO0 := Aside0.mk (show Kd.R k55 55 w w0.heap.size (fun k_ => (P0_ k_ ∨ w.heap.size ≤ k_)) u9000_ l0 from Kd.R_mono ho0 (fun k_ hk => (.inl hk)))
 have HK := Aside0.mk (Kept.refl w (fun k_ => P0_ k_))
 have HW0 := Aside0.mk hB.size
 have HB := Aside0.mk hB
 clear hB
 have H : ((fact_Fact_43.f k l0 (l0.length : Int)).bind fun t160 => (some t160)) = some r := h
 clear h
 replace H := Option.bind_eq_some_iff.mp H
 obtain ⟨t160, A30, H⟩ := H
 replace H : (some t160) = some r := H
 have A3 := Aside0.mk A30
 clear A30
 obtain rfl := Option.some.inj H
 obtain ⟨Ao4, co4, eo4⟩ := Kd.R_slice HO0.out
 subst eo4
 go_enter Try.func33, Try.ntmps33
 go_wp2_with (first | ((with_reducible refine gate_callee (f := 43) rfl ?_); refine goesL_ (some 8) rfl rfl Try.func43 (by kernel_rfl) rfl #[.slice Ao4 l0.length co4, .int .i64 (l0.length : Int), .func (.func 34) #[] #[]] rfl mp_ ?_; (with_reducible refine (fact_Fact_43.calls k (fun k_ => some k_ = (.slice Ao4 l0.length co4 : Value).ownBlock) (.slice Ao4 l0.length co4) l0 (l0.length : Int)  t160 w0 _ ?side1 ?side2 A3.out).mono ?_); (case side1 => repeat (first | (with_reducible first | exact HB.out | apply below_alloc | apply pw_below_drewN | apply below_drew1) | exact HB.out)); (case side2 => exact Kd.R_tight rfl HO0.out); rintro e w5 ⟨rfl, hy0, hb, hkp⟩; refine ⟨_, rfl, ?_⟩; have n0_ := Aside0.mk (Kd.R_reok rfl hy0 (fun k_ e_ => HO0.out.1 k_ e_)); have n1_ := Aside0.mk (Kept.then_ (S := (fun k_ => P0_ k_)) (by repeat (first | (with_reducible first | exact HK.out | apply Kept.alloc | apply Kept.drewN | apply Kept.drew) | exact HK.out)) hkp (fun k_ hs_ => (fun e_ => (HO0.out.1 k_ e_.symm)) hs_)); have n2_ := Aside0.mk (hb); clear HO0; clear HK; clear HB; have HO0 := n0_; have HK := n1_; have HB := n2_; clear n0_ n1_ n2_; (try clear hb); (try clear hkp); (try clear hy0)))
 first | go_end0 | ((try simp only [Exit.inBlock, Exit.then]); refine bodyPost_ret (results_none rfl _ _ _) rfl ?_)
 exact ⟨re_, by (with_reducible repeat (first | apply Kd.R_alloc | apply Kd.R_drewN | apply Kd.R_drew)); exact HO0.out, by repeat (first | (with_reducible first | exact HB.out | apply below_alloc | apply pw_below_drewN | apply below_drew1) | exact HB.out), by repeat (first | (with_reducible first | exact HK.out | apply Kept.alloc | apply Kept.drewN | apply Kept.drew) | exact HK.out)⟩

end Go.Proofs.Ytdckeflggcefbaa.Y
namespace Go.Proofs.Ytdckeflggcefbaa.Y
open Go.RowKit Go.Proofs.YtdckeflggcefbaaW.PrintWords Go.Proofs.YtdckeflggcefbaaW.PrintLast Go.Proofs.YtdckeflggcefbaaW.PrintMore
set_option linter.unusedVariables false
set_option linter.unusedSimpArgs false
theorem cross_lt {A2 B1 : List S55} (hA : Srt A2) (hB : Srt B1) (h : ∀ u A' B' v, A2 = u :: A' → B1 = B' ++ [v] → cmpS v u < 0) : ∀ y ∈ A2, ∀ x ∈ B1, cmpS x y < 0 := by
  intro y hy x hx
  obtain ⟨u, A', rfl⟩ := cons_of_pos (List.length_pos_of_mem hy)
  obtain ⟨B', v, rfl⟩ := snoc_of_pos (List.length_pos_of_mem hx)
  exact le_lt (last_le hB x hx) (lt_le (h u A' B' v rfl rfl) (first_le hA y hy))
theorem cross_le {A1 B2 : List S55} (hA : Srt A1) (hB : Srt B2) (h : ∀ A' u v B', A1 = A' ++ [u] → B2 = v :: B' → ¬ cmpS v u < 0) : ∀ x ∈ A1, ∀ y ∈ B2, cmpS x y ≤ 0 := by
  intro x hx y hy
  obtain ⟨A', u, rfl⟩ := snoc_of_pos (List.length_pos_of_mem hx)
  obtain ⟨v, B', rfl⟩ := cons_of_pos (List.length_pos_of_mem hy)
  exact cmpS_good.trans _ _ _ (last_le hA x hx) (cmpS_good.trans _ _ _ (le_of_not_lt (h A' u v B' rfl rfl)) (first_le hB y hy))
/-- Where the search of two stretches ends. -/
theorem sC_find (A B P Q : List S55) (a m b mid lo hi : Nat) (hA : Srt A) (hB : Srt B) (hs : Sm (P ++ (A ++ (B ++ Q))).length) (ha : a = P.length) (hm : m = a + A.length) (hb : b = m + B.length) (hmid : mid = (a + b) / 2)
    (hlo : a < m ∧ m < b ∧ ((mid < m ∧ lo = mid + m - b ∧ hi = mid) ∨ (m ≤ mid ∧ lo = a ∧ hi = m))) (hA2 : 2 ≤ A.length) (hB2 : 2 ≤ B.length) :
    ∃ s, lo ≤ s ∧ s ≤ hi ∧ (∃ A1 A2 B1 B2, A = A1 ++ A2 ∧ B = B1 ++ B2 ∧ A1.length = s - a ∧ B1.length = mid - s ∧ (∀ y ∈ A2, ∀ x ∈ B1, cmpS x y < 0) ∧ (∀ x ∈ A1, ∀ y ∈ B2, cmpS x y ≤ 0)) ∧
      ∀ r, Ev (fun k => if (s : Int) < m then fact_Fact_48.j6 k (P ++ (A ++ (B ++ Q))) a m b mid s ((mid + m - s : Nat) : Int) (decide ((m : Int) < ((mid + m - s : Nat) : Int))) else fact_Fact_48.j6 k (P ++ (A ++ (B ++ Q))) a m b mid s ((mid + m - s : Nat) : Int) false) r →
        Ev (fun k => fact_Fact_48.l4 k (P ++ (A ++ (B ++ Q))) a m b mid ((mid + m : Nat) : Int) lo hi ((mid + m - 1 : Nat) : Int)) r := by
  have hs' : P.length + A.length + B.length + Q.length ≤ 1000000000000000000 := by unfold Sm at hs; simp at hs; omega
  have hlen : (P ++ (A ++ (B ++ Q))).length = P.length + A.length + B.length + Q.length := by simp; omega
  obtain ⟨xs, hxs⟩ : ∃ xs, P ++ (A ++ (B ++ Q)) = xs := ⟨_, rfl⟩
  rw [hxs] at hlen ⊢
  have hw : a ≤ lo ∧ lo ≤ hi ∧ hi ≤ m ∧ mid + m ≤ b + lo ∧ hi ≤ mid := by omega
  obtain ⟨s, g1, g2, g3, g4, g5⟩ := bsearch (fun k i j => fact_Fact_48.l4 k xs a m b mid ((mid + m : Nat) : Int) i j ((mid + m - 1 : Nat) : Int))
    (fun k s => if s < (m : Int) then fact_Fact_48.j6 k xs a m b mid s (wrap64 (((mid + m : Nat) : Int) - s)) (decide ((m : Int) < wrap64 (((mid + m : Nat) : Int) - s))) else fact_Fact_48.j6 k xs a m b mid s (wrap64 (((mid + m : Nat) : Int) - s)) false)
    (fun c => ¬ cmpS (rd_T55 xs ((mid + m - 1 - c : Nat) : Int)) (rd_T55 xs (c : Int)) < 0) lo hi
    (fun k i h1 h2 => by
      show fact_Fact_48.l4 (k + 1) _ _ _ _ _ _ _ _ _ = _
      simp only [fact_Fact_48.l4]; rw [if_neg (by omega)])
    (fun i j h1 h2 h3 r h => by
      have ew : wrap64 (((mid + m - 1 : Nat) : Int) - (((i + j) / 2 : Nat) : Int)) = ((mid + m - 1 - (i + j) / 2 : Nat) : Int) := by rw [w64 (by omega) (by omega)]; omega
      refine Ev.step (Ev.bind (g := fun k t => if t < 0 then fact_Fact_48.l4 k xs a m b mid ((mid + m : Nat) : Int) i (((i + j) / 2 : Nat) : Int) ((mid + m - 1 : Nat) : Int) else fact_Fact_48.l4 k xs a m b mid ((mid + m : Nat) : Int) (((i + j) / 2 + 1 : Nat) : Int) j ((mid + m - 1 : Nat) : Int)) (of1_ev (rd_T55 xs ((mid + m - 1 - (i + j) / 2 : Nat) : Int)) (rd_T55 xs (((i + j) / 2 : Nat) : Int))) ?_) fun k => ?_
      · by_cases hc : cmpS (rd_T55 xs ((mid + m - 1 - (i + j) / 2 : Nat) : Int)) (rd_T55 xs (((i + j) / 2 : Nat) : Int)) < 0
        · rw [if_neg (by simpa using hc)] at h; simp only [if_pos hc]; exact h
        · rw [if_pos hc] at h; simp only [if_neg hc]; exact h
      · show fact_Fact_48.l4 (k + 1) _ _ _ _ _ _ _ _ _ = _
        simp only [fact_Fact_48.l4]
        rw [midw i j (by omega), ew, if_pos (by omega), if_pos (by omega), if_pos (by rw [hlen]; omega), if_pos (by omega), if_pos (by rw [hlen]; omega), w64 (n := (((i + j) / 2 : Nat) : Int) + 1) (by omega) (by omega)]
        rfl) (hi - lo) lo hi (Nat.le_refl _) (Nat.le_refl _) (by omega) (Nat.le_refl _)
  refine ⟨s, g1, g2, ?_, fun r h => g5 r ?_⟩
  · obtain ⟨A1, A2, rfl, h1⟩ := part_at A (s - a) (by omega)
    obtain ⟨B1, B2, rfl, h2⟩ := part_at B (mid - s) (by omega)
    have hlA : (A1 ++ A2).length = A1.length + A2.length := by simp
    have hlB : (B1 ++ B2).length = B1.length + B2.length := by simp
    refine ⟨A1, A2, B1, B2, rfl, rfl, h1, h2, cross_lt hA.right hB.left ?_, cross_le hA.left hB.right ?_⟩
    · rintro u A' B' v rfl rfl
      simp only [List.length_append, List.length_cons, List.length_nil] at h1 h2 hlA hlB hm hb hlen
      have hsr : s < hi := by omega
      have := g4 hsr
      rw [show rd_T55 xs ((mid + m - 1 - s : Nat) : Int) = v by
          rw [← hxs, show P ++ ((A1 ++ (u :: A')) ++ (((B' ++ [v]) ++ B2) ++ Q)) = (P ++ ((A1 ++ (u :: A')) ++ B')) ++ (v :: (B2 ++ Q)) by simp]
          exact rd_app _ _ _ _ (by simp; omega),
        show rd_T55 xs (s : Int) = u by
          rw [← hxs, show P ++ ((A1 ++ (u :: A')) ++ (((B' ++ [v]) ++ B2) ++ Q)) = (P ++ A1) ++ (u :: (A' ++ (((B' ++ [v]) ++ B2) ++ Q))) by simp]
          exact rd_app _ _ _ _ (by simp; omega)] at this
      exact Decidable.not_not.1 this
    · rintro A' u v B' rfl rfl
      simp only [List.length_append, List.length_cons, List.length_nil] at h1 h2 hlA hlB hm hb hlen
      have hsr : lo < s := by omega
      have := g3 hsr
      rw [show rd_T55 xs ((mid + m - 1 - (s - 1) : Nat) : Int) = v by
          rw [← hxs, show P ++ (((A' ++ [u]) ++ A2) ++ ((B1 ++ (v :: B')) ++ Q)) = (P ++ (((A' ++ [u]) ++ A2) ++ B1)) ++ (v :: (B' ++ Q)) by simp]
          exact rd_app _ _ _ _ (by simp; omega),
        show rd_T55 xs ((s - 1 : Nat) : Int) = u by
          rw [← hxs, show P ++ (((A' ++ [u]) ++ A2) ++ ((B1 ++ (v :: B')) ++ Q)) = (P ++ A') ++ (u :: (A2 ++ ((B1 ++ (v :: B')) ++ Q))) by simp]
          exact rd_app _ _ _ _ (by simp; omega)] at this
      exact this
  · have ew : wrap64 (((mid + m : Nat) : Int) - (s : Int)) = ((mid + m - s : Nat) : Int) := by rw [w64 (by omega) (by omega)]; omega
    simp only [ew]
    exact h
theorem f48_one (A B P Q : List S55) (a m b : Nat) (hA : Srt A) (hB : Srt B) (hA0 : 0 < A.length) (hB0 : 0 < B.length) (hs : Sm (P ++ (A ++ (B ++ Q))).length) (ha : a = P.length) (hm : m = a + A.length) (hb : b = m + B.length) (c1 : A.length = 1) :
    ∃ C, SS (A ++ B) C ∧ C.length = A.length + B.length ∧ Ev (fun k => fact_Fact_48.f k (P ++ (A ++ (B ++ Q))) a m b) (P ++ (C ++ Q)) := by
  have hs' : P.length + A.length + B.length + Q.length ≤ 1000000000000000000 := by unfold Sm at hs; simp at hs; omega
  have w1 : wrap64 ((m : Int) - a) = (m : Int) - a := w64 (by omega) (by omega)
  have w2 : wrap64 ((b : Int) - m) = (b : Int) - m := w64 (by omega) (by omega)
  obtain ⟨x, rfl⟩ := List.length_eq_one_iff.1 c1
  obtain ⟨B1, B2, rfl, h1, h2, h3⟩ := sA_ev x B P Q a m b hB (by simpa using hs) ha (by simpa using hm) hb
  refine ⟨B1 ++ x :: B2, ⟨?_, fun z => ?_⟩, by simp; omega, ?_⟩
  · refine hB.left.app (List.pairwise_cons.2 ⟨h2, hB.right⟩) fun p hp q hq => ?_
    rcases List.mem_cons.1 hq with rfl | hq
    · exact Int.le_of_lt (h1 p hp)
    · exact hB.across p hp q hq
  · rw [show B1 ++ x :: B2 = (B1 ++ [x]) ++ B2 by simp, show [x] ++ (B1 ++ B2) = ([x] ++ B1) ++ B2 by simp, List.filter_append (B1 ++ [x]), List.filter_append ([x] ++ B1),
      filter_cross (a := [x]) (b := B1) (fun p hp q hq => by obtain rfl := List.mem_singleton.1 hp; exact h1 q hq)]
  · refine Ev.step (g := fun k => fact_Fact_48.l0 k (P ++ ([x] ++ ((B1 ++ B2) ++ Q))) a m b) (by simpa using h3) fun k => ?_
    show fact_Fact_48.f (k + 1) _ _ _ _ = _
    simp only [fact_Fact_48.f]
    rw [w1, if_pos (by simp at hm; omega)]
theorem f48_two (A B P Q : List S55) (a m b : Nat) (hA : Srt A) (hB : Srt B) (hA0 : 0 < A.length) (hB0 : 0 < B.length) (hs : Sm (P ++ (A ++ (B ++ Q))).length) (ha : a = P.length) (hm : m = a + A.length) (hb : b = m + B.length) (c1 : ¬ A.length = 1) (c2 : B.length = 1) :
    ∃ C, SS (A ++ B) C ∧ C.length = A.length + B.length ∧ Ev (fun k => fact_Fact_48.f k (P ++ (A ++ (B ++ Q))) a m b) (P ++ (C ++ Q)) := by
  have hs' : P.length + A.length + B.length + Q.length ≤ 1000000000000000000 := by unfold Sm at hs; simp at hs; omega
  have w1 : wrap64 ((m : Int) - a) = (m : Int) - a := w64 (by omega) (by omega)
  have w2 : wrap64 ((b : Int) - m) = (b : Int) - m := w64 (by omega) (by omega)
  obtain ⟨y, rfl⟩ := List.length_eq_one_iff.1 c2
  obtain ⟨A1, A2, rfl, h1, h2, h3⟩ := sB_ev y A P Q a m hA (by simpa using hs) ha hm
  refine ⟨A1 ++ y :: A2, ⟨?_, fun z => ?_⟩, by simp; omega, ?_⟩
  · refine hA.left.app (List.pairwise_cons.2 ⟨fun q hq => Int.le_of_lt (h2 q hq), hA.right⟩) fun p hp q hq => ?_
    rcases List.mem_cons.1 hq with rfl | hq
    · exact h1 p hp
    · exact hA.across p hp q hq
  · rw [show A1 ++ y :: A2 = A1 ++ ([y] ++ A2) by simp, show (A1 ++ A2) ++ [y] = A1 ++ (A2 ++ [y]) by simp, List.filter_append A1, List.filter_append A1,
      filter_cross (a := A2) (b := [y]) (fun p hp q hq => by obtain rfl := List.mem_singleton.1 hq; exact h2 p hp)]
  · refine Ev.step (g := fun k => fact_Fact_48.l2 k (P ++ ((A1 ++ A2) ++ ([y] ++ Q))) m a m) (by simpa using h3) fun k => ?_
    show fact_Fact_48.f (k + 1) _ _ _ _ = _
    simp only [fact_Fact_48.f]
    rw [w1, w2, if_neg (by omega), if_pos (by simp at hb; omega)]
theorem f48_fin (A1 A2 B1 B2 C1 C2 P Q : List S55) (a m b mid s e : Nat) (hs' : P.length + (A1.length + A2.length) + (B1.length + B2.length) + Q.length ≤ 1000000000000000000) (ha : a = P.length) (hm : m = a + (A1.length + A2.length)) (hb : b = m + (B1.length + B2.length)) (he : e + s = mid + m) (l1 : A1.length + a = s) (l2 : B1.length + s = mid) (hsm : s ≤ m) (heb : e ≤ b)
    (p3 : a < s → s < mid → Ev (fun k => fact_Fact_48.f k (P ++ (A1 ++ (B1 ++ (A2 ++ (B2 ++ Q))))) a s mid) (P ++ (C1 ++ (A2 ++ (B2 ++ Q))))) (p4 : ¬ (a < s ∧ s < mid) → C1 = A1 ++ B1)
    (q3 : mid < e → e < b → Ev (fun k => fact_Fact_48.f k ((P ++ C1) ++ (A2 ++ (B2 ++ Q))) mid (e : Int) b) ((P ++ C1) ++ (C2 ++ Q))) (q4 : ¬ (mid < e ∧ e < b) → C2 = A2 ++ B2) :
    Ev (fun k => if (s : Int) < m then fact_Fact_48.j6 k (P ++ ((A1 ++ A2) ++ ((B1 ++ B2) ++ Q))) a m b mid s (e : Int) (decide ((m : Int) < (e : Int))) else fact_Fact_48.j6 k (P ++ ((A1 ++ A2) ++ ((B1 ++ B2) ++ Q))) a m b mid s (e : Int) false) (P ++ ((C1 ++ C2) ++ Q)) := by
  -- the second merge
  have R : Ev (fun k => if (mid : Int) < (e : Int) then (if (e : Int) < b then (fact_Fact_48.f k (P ++ (C1 ++ (A2 ++ (B2 ++ Q)))) mid (e : Int) b).bind fun t => some t else some (P ++ (C1 ++ (A2 ++ (B2 ++ Q))))) else some (P ++ (C1 ++ (A2 ++ (B2 ++ Q))))) (P ++ ((C1 ++ C2) ++ Q)) := by
    by_cases d1 : mid < e
    · have k1 : (mid : Int) < (e : Int) := by omega
      simp only [if_pos k1]
      by_cases d2 : e < b
      · have k2 : (e : Int) < (b : Int) := by omega
        simp only [if_pos k2]
        refine Ev.bind (g := fun _ t => some t) (by simpa using q3 d1 d2) (Ev.const fun _ => by simp)
      · have k2 : ¬ (e : Int) < (b : Int) := by omega
        simp only [if_neg k2]
        rw [q4 (by omega)]
        exact Ev.const fun _ => by simp
    · have k1 : ¬ (mid : Int) < (e : Int) := by omega
      simp only [if_neg k1]
      rw [q4 (by omega)]
      exact Ev.const fun _ => by simp
  -- the first merge
  have J8 : Ev (fun k => if a < s then fact_Fact_48.j8 k (P ++ (A1 ++ (B1 ++ (A2 ++ (B2 ++ Q))))) a b mid s (e : Int) (decide ((s : Int) < (mid : Int))) else fact_Fact_48.j8 k (P ++ (A1 ++ (B1 ++ (A2 ++ (B2 ++ Q))))) a b mid s (e : Int) false) (P ++ ((C1 ++ C2) ++ Q)) := by
    by_cases d : a < s ∧ s < mid
    · simp only [if_pos d.1]
      refine Ev.step (Ev.bind (g := fun k t => if (mid : Int) < (e : Int) then (if (e : Int) < b then (fact_Fact_48.f k t mid (e : Int) b).bind fun t => some t else some t) else some t) (p3 d.1 d.2) R) fun k => ?_
      show fact_Fact_48.j8 (k + 1) _ _ _ _ _ _ _ = _
      simp only [fact_Fact_48.j8]
      rw [if_pos (by simp; omega)]
    · have hfl : (if a < s then decide ((s : Int) < (mid : Int)) else false) = false := by
        by_cases d1 : a < s
        · rw [if_pos d1]; simp; omega
        · rw [if_neg d1]
      have R' := R
      rw [p4 d] at R'
      have J : Ev (fun k => fact_Fact_48.j8 k (P ++ (A1 ++ (B1 ++ (A2 ++ (B2 ++ Q))))) a b mid s (e : Int) false) (P ++ ((C1 ++ C2) ++ Q)) := by
        rw [p4 d]
        refine Ev.step R' fun k => ?_
        show fact_Fact_48.j8 (k + 1) _ _ _ _ _ _ _ = _
        simp only [fact_Fact_48.j8]
        rw [if_neg (by simp)]
        simp
      by_cases d1 : a < s
      · rw [if_pos d1] at hfl
        simp only [if_pos d1, hfl]; exact J
      · simp only [if_neg d1]; exact J
  have J7 : Ev (fun k => fact_Fact_48.j7 k (P ++ (A1 ++ (B1 ++ (A2 ++ (B2 ++ Q))))) a b mid s (e : Int)) (P ++ ((C1 ++ C2) ++ Q)) := by
    refine Ev.step J8 fun k => ?_
    show fact_Fact_48.j7 (k + 1) _ _ _ _ _ _ = _
    simp only [fact_Fact_48.j7]
    by_cases d : a < s
    · rw [if_pos (by omega), if_pos d]
    · rw [if_neg (by omega), if_neg d]
  by_cases d : s < m ∧ m < e
  · have k1 : (s : Int) < (m : Int) := by omega
    simp only [if_pos k1]
    refine Ev.step (Ev.bind (g := fun k t => fact_Fact_48.j7 k t a b mid s (e : Int)) (f50_ev A2 B1 (P ++ A1) (B2 ++ Q) s m (e : Int) (by unfold Sm; simp; omega) (by omega) (by omega) (by simp; omega) (by omega) (by omega)) (J7.eq fun k => by simp)) fun k => ?_
    show fact_Fact_48.j6 (k + 1) _ _ _ _ _ _ _ _ = _
    simp only [fact_Fact_48.j6]
    rw [if_pos (by simp; omega)]
    simp
  · have hfl : (if (s : Int) < m then decide ((m : Int) < (e : Int)) else false) = false := by
      by_cases d1 : s < m
      · rw [if_pos (by omega)]; simp; omega
      · rw [if_neg (by omega)]
    have hsame : P ++ ((A1 ++ A2) ++ ((B1 ++ B2) ++ Q)) = P ++ (A1 ++ (B1 ++ (A2 ++ (B2 ++ Q)))) := by
      by_cases d1 : s < m
      · have : B1 = [] := List.length_eq_zero_iff.1 (by omega)
        subst this; simp
      · have : A2 = [] := List.length_eq_zero_iff.1 (by omega)
        subst this; simp
    have J : Ev (fun k => fact_Fact_48.j6 k (P ++ ((A1 ++ A2) ++ ((B1 ++ B2) ++ Q))) a m b mid s (e : Int) false) (P ++ ((C1 ++ C2) ++ Q)) := by
      rw [hsame]
      refine Ev.step J7 fun k => ?_
      show fact_Fact_48.j6 (k + 1) _ _ _ _ _ _ _ _ = _
      simp only [fact_Fact_48.j6]
      rw [if_neg (by simp)]
    by_cases d1 : s < m
    · have d1' : (s : Int) < m := by omega
      rw [if_pos d1'] at hfl
      simp only [if_pos d1', hfl]; exact J
    · have k1 : ¬ (s : Int) < (m : Int) := by omega
      simp only [if_neg k1]; exact J
theorem way_words (a m b mid : Nat) (hb1 : b ≤ 1000000000000000000) (ham : a ≤ m) (hmb : m ≤ b) (h1 : 1 ≤ m) (hmid : mid = (a + b) / 2) :
    wrap64 ((m : Int) - a) = (m : Int) - a ∧ wrap64 ((b : Int) - m) = (b : Int) - m ∧ wrap64 ((IntKind.u64.wrap (wrap64 ((a : Int) + (b : Int)))) / 2) = (mid : Int) ∧ wrap64 ((mid : Int) + (m : Int)) = ((mid + m : Nat) : Int) ∧ wrap64 (((mid + m : Nat) : Int) - 1) = ((mid + m - 1 : Nat) : Int) ∧ wrap64 (((mid + m : Nat) : Int) - b) = ((mid + m : Nat) : Int) - b := by
  refine ⟨w64 (by omega) (by omega), w64 (by omega) (by omega), ?_, ?_, ?_, w64 (by omega) (by omega)⟩
  · rw [midw a b (by omega), hmid]
  · rw [w64 (by omega) (by omega)]; omega
  · rw [w64 (by omega) (by omega)]; omega
theorem way_end (xs fin : List S55) (a m b mid lo hi : Nat) (hb1 : b ≤ 1000000000000000000) (ham : a + 2 ≤ m) (hmb : m + 2 ≤ b) (hmid : mid = (a + b) / 2) (hlo : (mid < m ∧ lo + b = mid + m ∧ hi = mid) ∨ (m ≤ mid ∧ lo = a ∧ hi = m))
    (h : Ev (fun k => fact_Fact_48.l4 k xs a m b mid ((mid + m : Nat) : Int) lo hi ((mid + m - 1 : Nat) : Int)) fin) : Ev (fun k => fact_Fact_48.f k xs a m b) fin := by
  obtain ⟨w1, w2, e1, e2, e3, e4⟩ := way_words a m b mid hb1 (by omega) (by omega) (by omega) hmid
  have J4 : Ev (fun k => fact_Fact_48.j4 k xs a m b mid ((mid + m : Nat) : Int) lo hi) fin := by
    refine Ev.step h fun k => ?_
    show fact_Fact_48.j4 (k + 1) _ _ _ _ _ _ _ _ = _
    simp only [fact_Fact_48.j4, e3]
  refine Ev.step J4 fun k => ?_
  show fact_Fact_48.f (k + 1) _ _ _ _ = _
  simp only [fact_Fact_48.f]
  have n1 : ¬ ((m : Int) - a = 1) := by omega
  have n2 : ¬ ((b : Int) - m = 1) := by omega
  rw [w1, w2, if_neg n1, if_neg n2, e1, e2]
  rcases hlo with ⟨c, h1, h2⟩ | ⟨c, h1, h2⟩
  · have c' : (m : Int) > mid := by omega
    have h3 : ((mid + m : Nat) : Int) - b = (lo : Int) := by omega
    rw [if_pos c', e4, h3, h2]
  · have c' : ¬ (m : Int) > mid := by omega
    rw [if_neg c', h1, h2]
theorem f48_way (A1 A2 B1 B2 C1 C2 P Q : List S55) (a m b mid lo hi s : Nat) (hs' : P.length + (A1.length + A2.length) + (B1.length + B2.length) + Q.length ≤ 1000000000000000000) (ha : a = P.length) (hm : m = a + (A1.length + A2.length)) (hb : b = m + (B1.length + B2.length)) (hmid : mid = (a + b) / 2)
    (c1 : ¬ A1.length + A2.length = 1) (c2 : ¬ B1.length + B2.length = 1) (hlo : (mid < m ∧ lo = mid + m - b ∧ hi = mid) ∨ (m ≤ mid ∧ lo = a ∧ hi = m)) (g1 : lo ≤ s) (g2 : s ≤ hi) (l1 : A1.length = s - a) (l2 : B1.length = mid - s) (hw : a ≤ lo ∧ hi ≤ m ∧ mid + m ≤ b + lo ∧ hi ≤ mid)
    (hA0 : 0 < A1.length + A2.length) (hB0 : 0 < B1.length + B2.length)
    (g5 : ∀ r, Ev (fun k => if (s : Int) < m then fact_Fact_48.j6 k (P ++ ((A1 ++ A2) ++ ((B1 ++ B2) ++ Q))) a m b mid s ((mid + m - s : Nat) : Int) (decide ((m : Int) < ((mid + m - s : Nat) : Int))) else fact_Fact_48.j6 k (P ++ ((A1 ++ A2) ++ ((B1 ++ B2) ++ Q))) a m b mid s ((mid + m - s : Nat) : Int) false) r →
        Ev (fun k => fact_Fact_48.l4 k (P ++ ((A1 ++ A2) ++ ((B1 ++ B2) ++ Q))) a m b mid ((mid + m : Nat) : Int) lo hi ((mid + m - 1 : Nat) : Int)) r)
    (p3 : a < s → s < mid → Ev (fun k => fact_Fact_48.f k (P ++ (A1 ++ (B1 ++ (A2 ++ (B2 ++ Q))))) a s mid) (P ++ (C1 ++ (A2 ++ (B2 ++ Q))))) (p4 : ¬ (a < s ∧ s < mid) → C1 = A1 ++ B1)
    (q3 : mid < mid + m - s → mid + m - s < b → Ev (fun k => fact_Fact_48.f k ((P ++ C1) ++ (A2 ++ (B2 ++ Q))) mid ((mid + m - s : Nat) : Int) b) ((P ++ C1) ++ (C2 ++ Q))) (q4 : ¬ (mid < mid + m - s ∧ mid + m - s < b) → C2 = A2 ++ B2) :
    Ev (fun k => fact_Fact_48.f k (P ++ ((A1 ++ A2) ++ ((B1 ++ B2) ++ Q))) a m b) (P ++ ((C1 ++ C2) ++ Q)) := by
  have bb : b ≤ 1000000000000000000 := by clear hlo hmid hw g1 g2 l1 l2 c1 c2 g5 p3 p4 q3 q4; omega
  have am : a + 2 ≤ m := by clear hlo hmid hw g1 g2 l1 l2 c2 g5 p3 p4 q3 q4; omega
  have mb : m + 2 ≤ b := by clear hlo hmid hw g1 g2 l1 l2 c1 g5 p3 p4 q3 q4; omega
  have sm : s ≤ m ∧ s ≤ mid ∧ a ≤ s ∧ mid + m ≤ b + s := by clear hlo hmid l1 l2 c1 c2 g5 p3 p4 q3 q4; omega
  obtain ⟨s1, s2, s3, s4⟩ := sm
  have fin := g5 (P ++ ((C1 ++ C2) ++ Q)) (f48_fin A1 A2 B1 B2 C1 C2 P Q a m b mid s (mid + m - s) hs' ha hm hb (Nat.sub_add_cancel (Nat.le_trans s2 (Nat.le_add_right _ _))) (by rw [l1]; exact Nat.sub_add_cancel s3) (by rw [l2]; exact Nat.sub_add_cancel s2) s1 (Nat.sub_le_iff_le_add.2 s4) p3 p4 q3 q4)
  refine way_end _ _ a m b mid lo hi bb am mb hmid ?_ fin
  clear g5 p3 p4 q3 q4 fin l1 l2 c1 c2 hw hs'
  rcases hlo with ⟨x1, x2, x3⟩ | h
  · exact .inl ⟨x1, by omega, x3⟩
  · exact .inr h
theorem f48_gen (n : Nat) (ih : ∀ (A B P Q : List S55) (a m b : Nat), A.length + B.length ≤ n → Srt A → Srt B → 0 < A.length → 0 < B.length → Sm (P ++ (A ++ (B ++ Q))).length → a = P.length → m = a + A.length → b = m + B.length →
    ∃ C, SS (A ++ B) C ∧ C.length = A.length + B.length ∧ Ev (fun k => fact_Fact_48.f k (P ++ (A ++ (B ++ Q))) a m b) (P ++ (C ++ Q)))
    (A B P Q : List S55) (a m b : Nat) (hA : Srt A) (hB : Srt B) (hA0 : 0 < A.length) (hB0 : 0 < B.length) (hs : Sm (P ++ (A ++ (B ++ Q))).length) (ha : a = P.length) (hm : m = a + A.length) (hb : b = m + B.length) (hn : A.length + B.length ≤ n + 1) (c1 : ¬ A.length = 1) (c2 : ¬ B.length = 1) :
    ∃ C, SS (A ++ B) C ∧ C.length = A.length + B.length ∧ Ev (fun k => fact_Fact_48.f k (P ++ (A ++ (B ++ Q))) a m b) (P ++ (C ++ Q)) := by
  have hs' : P.length + A.length + B.length + Q.length ≤ 1000000000000000000 := by unfold Sm at hs; simp at hs; omega
  obtain ⟨mid, hmid⟩ : ∃ mid, mid = (a + b) / 2 := ⟨_, rfl⟩
  obtain ⟨lo, hi, hlo⟩ : ∃ lo hi, (mid < m ∧ lo = mid + m - b ∧ hi = mid) ∨ (m ≤ mid ∧ lo = a ∧ hi = m) := by
    by_cases c : mid < m
    · exact ⟨_, _, .inl ⟨c, rfl, rfl⟩⟩
    · exact ⟨_, _, .inr ⟨by omega, rfl, rfl⟩⟩
  obtain ⟨s, g1, g2, ⟨A1, A2, B1, B2, rfl, rfl, l1, l2, x1, x2⟩, g5⟩ := sC_find A B P Q a m b mid lo hi hA hB hs ha hm hb hmid ⟨by omega, by omega, hlo⟩ (by omega) (by omega)
  have hlA : (A1 ++ A2).length = A1.length + A2.length := by simp
  have hlB : (B1 ++ B2).length = B1.length + B2.length := by simp
  have hw : a ≤ lo ∧ hi ≤ m ∧ mid + m ≤ b + lo ∧ hi ≤ mid := by omega
  -- the left part
  obtain ⟨C1, p1, p2, p3⟩ : ∃ C1, SS (A1 ++ B1) C1 ∧ C1.length = A1.length + B1.length ∧ (a < s → s < mid → Ev (fun k => fact_Fact_48.f k (P ++ (A1 ++ (B1 ++ (A2 ++ (B2 ++ Q))))) a s mid) (P ++ (C1 ++ (A2 ++ (B2 ++ Q))))) ∧ (¬ (a < s ∧ s < mid) → C1 = A1 ++ B1) := by
    by_cases hc : a < s ∧ s < mid
    · obtain ⟨C1, q1, q2, q3⟩ := ih A1 B1 P (A2 ++ (B2 ++ Q)) a s mid (by omega) hA.left hB.left (by omega) (by omega) (by unfold Sm; simp; omega) ha (by omega) (by omega)
      exact ⟨C1, q1, q2, fun _ _ => q3, fun h => absurd hc h⟩
    · refine ⟨A1 ++ B1, SS.refl ?_, by simp, fun h1 h2 => absurd ⟨h1, h2⟩ hc, fun _ => rfl⟩
      by_cases e : s = a
      · have : A1 = [] := List.length_eq_zero_iff.1 (by omega)
        subst this; simpa using hB.left
      · have : B1 = [] := List.length_eq_zero_iff.1 (by omega)
        subst this; simpa using hA.left
  obtain ⟨p3, p4⟩ := p3
  obtain ⟨C2, q1, q2, q3, q4⟩ : ∃ C2, SS (A2 ++ B2) C2 ∧ C2.length = A2.length + B2.length ∧ (mid < mid + m - s → mid + m - s < b → Ev (fun k => fact_Fact_48.f k ((P ++ C1) ++ (A2 ++ (B2 ++ Q))) mid ((mid + m - s : Nat) : Int) b) ((P ++ C1) ++ (C2 ++ Q))) ∧ (¬ (mid < mid + m - s ∧ mid + m - s < b) → C2 = A2 ++ B2) := by
    by_cases hc : mid < mid + m - s ∧ mid + m - s < b
    · obtain ⟨C2, q1, q2, q3⟩ := ih A2 B2 (P ++ C1) Q mid (mid + m - s) b (by omega) hA.right hB.right (by omega) (by omega) (by unfold Sm; simp; omega) (by simp; omega) (by omega) (by omega)
      exact ⟨C2, q1, q2, fun _ _ => q3, fun h => absurd hc h⟩
    · refine ⟨A2 ++ B2, SS.refl ?_, by simp, fun h1 h2 => absurd ⟨h1, h2⟩ hc, fun _ => rfl⟩
      by_cases e : s = m
      · have : A2 = [] := List.length_eq_zero_iff.1 (by omega)
        subst this; simpa using hB.right
      · have : B2 = [] := List.length_eq_zero_iff.1 (by omega)
        subst this; simpa using hA.right
  refine ⟨C1 ++ C2, ?_, by simp; omega, ?_⟩
  · have h1 := SS.app p1 q1 (fun x hx y hy => by
      rcases List.mem_append.1 hx with hx | hx <;> rcases List.mem_append.1 hy with hy | hy
      · exact hA.across x hx y hy
      · exact x2 x hx y hy
      · exact Int.le_of_lt (x1 y hy x hx)
      · exact hB.across x hx y hy)
    refine ⟨h1.1, fun z => ?_⟩
    rw [h1.2 z, show (A1 ++ B1) ++ (A2 ++ B2) = A1 ++ ((B1 ++ A2) ++ B2) by simp, show (A1 ++ A2) ++ (B1 ++ B2) = A1 ++ ((A2 ++ B1) ++ B2) by simp,
      List.filter_append A1, List.filter_append A1, List.filter_append (B1 ++ A2), List.filter_append (A2 ++ B1), filter_cross (a := A2) (b := B1) x1]
  · rw [hlA] at hm c1 hA0 hs'
    rw [hlB] at hb c2 hB0 hs'
    exact f48_way A1 A2 B1 B2 C1 C2 P Q a m b mid lo hi s hs' ha hm hb hmid c1 c2 hlo g1 g2 l1 l2 hw hA0 hB0 g5 p3 p4 q3 q4
theorem f48_ev (n : Nat) : ∀ (A B P Q : List S55) (a m b : Nat), A.length + B.length ≤ n → Srt A → Srt B → 0 < A.length → 0 < B.length → Sm (P ++ (A ++ (B ++ Q))).length → a = P.length → m = a + A.length → b = m + B.length →
    ∃ C, SS (A ++ B) C ∧ C.length = A.length + B.length ∧ Ev (fun k => fact_Fact_48.f k (P ++ (A ++ (B ++ Q))) a m b) (P ++ (C ++ Q)) := by
  induction n with
  | zero => intro A B P Q a m b hn hA hB hA0 hB0; omega
  | succ n ih =>
    intro A B P Q a m b hn hA hB hA0 hB0 hs ha hm hb
    by_cases c1 : A.length = 1
    · exact f48_one A B P Q a m b hA hB hA0 hB0 hs ha hm hb c1
    by_cases c2 : B.length = 1
    · exact f48_two A B P Q a m b hA hB hA0 hB0 hs ha hm hb c1 c2
    exact f48_gen n ih A B P Q a m b hA hB hA0 hB0 hs ha hm hb hn c1 c2
/-- Block by block. -/
inductive Bl (bs : Nat) : List S55 → List S55 → Prop where
  | last {l r : List S55} : l.length ≤ bs → SS l r → r.length = l.length → Bl bs l r
  | cons {l1 r1 l r : List S55} : l1.length = bs → SS l1 r1 → r1.length = bs → Bl bs l r → Bl bs (l1 ++ l) (r1 ++ r)
theorem Bl.len {bs : Nat} {l r : List S55} (h : Bl bs l r) : r.length = l.length := by
  induction h with
  | last _ _ e => exact e
  | cons h1 _ h2 _ ih => simp [h1, h2, ih]
theorem SS.nil : SS [] [] := SS.refl List.Pairwise.nil
theorem Bl.one {bs : Nat} {l r : List S55} (h : Bl bs l r) (hl : l.length ≤ bs) : SS l r := by
  cases h with
  | last _ h _ => exact h
  | @cons l1 r1 l r h1 h2 h3 h4 =>
    have e : l = [] := List.length_eq_zero_iff.1 (by simp at hl; omega)
    subst e
    have e : r = [] := List.length_eq_zero_iff.1 h4.len
    subst e
    simpa using h2
theorem Bl.head {bs : Nat} {l r : List S55} (h : Bl bs l r) (hl : bs ≤ l.length) : ∃ l1 r1 l2 r2, l = l1 ++ l2 ∧ r = r1 ++ r2 ∧ l1.length = bs ∧ r1.length = bs ∧ SS l1 r1 ∧ Bl bs l2 r2 := by
  cases h with
  | last h1 h2 h3 => exact ⟨l, r, [], [], by simp, by simp, by omega, by omega, h2, .last (by simp) SS.nil rfl⟩
  | @cons l1 r1 l r h1 h2 h3 h4 => exact ⟨l1, r1, l, r, rfl, rfl, h1, h3, h2, h4⟩
theorem SS.join {l1 l2 r1 r2 c : List S55} (h1 : SS l1 r1) (h2 : SS l2 r2) (h : SS (r1 ++ r2) c) : SS (l1 ++ l2) c :=
  ⟨h.1, fun x => by rw [h.2, List.filter_append, List.filter_append, h1.2, h2.2]⟩
theorem l43_0_ev : ∀ (n : Nat) (T P : List S55) (N a b : Nat), T.length ≤ n → Sm (P ++ T).length → N = (P ++ T).length → a = P.length → b = a + 20 →
    ∃ R, Bl 20 T R ∧ ∀ fin, Ev (fun k => fact_Fact_43.l1 k (P ++ R) N 20) fin → Ev (fun k => fact_Fact_43.l0 k (P ++ T) N 20 a b) fin
  | n, T, P, N, a, b, hn, hs, hN, ha, hb => by
    have hs' : P.length + T.length ≤ 1000000000000000000 := by unfold Sm at hs; simp at hs; omega
    have hN' : N = P.length + T.length := by simpa using hN
    by_cases h : 20 ≤ T.length
    · cases n with
      | zero => omega
      | succ n =>
        obtain ⟨T1, T2, rfl, h1⟩ := part_at T 20 h
        have hl : (T1 ++ T2).length = T1.length + T2.length := by simp
        obtain ⟨S1, p1, p2, p3⟩ := f47_ev T1 P T2 a b (by simpa using hs) (by omega) (by omega)
        obtain ⟨R, q1, q2⟩ := l43_0_ev n T2 (P ++ S1) N b (b + 20) (by omega) (by unfold Sm; simp; omega) (by simp; omega) (by simp; omega) rfl
        refine ⟨S1 ++ R, .cons h1 p1 (by omega) q1, fun fin hf => ?_⟩
        have hf' := q2 fin (by simpa using hf)
        refine Ev.step (Ev.bind (g := fun k t => fact_Fact_43.l0 k t N 20 b ((b + 20 : Nat) : Int)) p3 (by simpa using hf')) fun k => ?_
        show fact_Fact_43.l0 (k + 1) _ _ _ _ _ = _
        simp only [fact_Fact_43.l0]
        rw [if_pos (by omega), w64 (n := (b : Int) + 20) (by omega) (by omega)]
        simp
    · obtain ⟨S1, p1, p2, p3⟩ := f47_ev T P [] a N (by simpa using hs) (by omega) (by omega)
      refine ⟨S1, .last (by omega) p1 p2, fun fin hf => ?_⟩
      refine Ev.step (Ev.bind (g := fun k t => fact_Fact_43.l1 k t N 20) p3 (by simpa using hf)) fun k => ?_
      show fact_Fact_43.l0 (k + 1) _ _ _ _ _ = _
      simp only [fact_Fact_43.l0]
      rw [if_neg (by omega)]
      simp
theorem l43_2_ev : ∀ (n : Nat) (T R P : List S55) (N a b bs : Nat), T.length ≤ n → Bl bs T R → 0 < bs → bs ≤ N → Sm (P ++ R).length → N = (P ++ R).length → a = P.length → b = a + 2 * bs →
    ∃ R', Bl (2 * bs) T R' ∧ ∀ fin, Ev (fun k => fact_Fact_43.l1 k (P ++ R') N ((2 * bs : Nat) : Int)) fin → Ev (fun k => fact_Fact_43.l2 k (P ++ R) N bs a b) fin
  | n, T, R, P, N, a, b, bs, hn, hB, hb0, hbN, hs, hN, ha, hb => by
    have hs' : P.length + R.length ≤ 1000000000000000000 := by unfold Sm at hs; simp at hs; omega
    have hN' : N = P.length + R.length := by simpa using hN
    have hlen := hB.len
    have w1 : wrap64 ((a : Int) + bs) = ((a + bs : Nat) : Int) := by rw [w64 (by omega) (by omega)]; omega
    have w2 : wrap64 ((bs : Int) * 2) = ((2 * bs : Nat) : Int) := by rw [w64 (by omega) (by omega)]; omega
    by_cases h : 2 * bs ≤ T.length
    · cases n with
      | zero => omega
      | succ n =>
        obtain ⟨t1, r1, T', R', rfl, rfl, e1, e2, e3, e4⟩ := hB.head (by omega)
        have hl1 : (t1 ++ T').length = t1.length + T'.length := by simp
        obtain ⟨t2, r2, T3, R3, rfl, rfl, d1, d2, d3, d4⟩ := e4.head (by omega)
        have hl2 : (t2 ++ T3).length = t2.length + T3.length := by simp
        have hl3 : (r1 ++ (r2 ++ R3)).length = r1.length + r2.length + R3.length := by simp; omega
        obtain ⟨C, c1, c2, c3⟩ := f48_ev _ r1 r2 P R3 a (a + bs) b (Nat.le_refl _) e3.1 d3.1 (by omega) (by omega) (by unfold Sm; simp; omega) ha (by omega) (by omega)
        obtain ⟨R', q1, q2⟩ := l43_2_ev n T3 R3 (P ++ C) N b (b + 2 * bs) bs (by omega) d4 hb0 hbN (by unfold Sm; simp; omega) (by simp; omega) (by simp; omega) rfl
        refine ⟨C ++ R', ?_, fun fin hf => ?_⟩
        · rw [← List.append_assoc]
          exact .cons (by simp; omega) (SS.join e3 d3 c1) (by omega) q1
        · have hf' := q2 fin (by simpa using hf)
          refine Ev.step (Ev.bind (g := fun k t => fact_Fact_43.l2 k t N bs b ((b + 2 * bs : Nat) : Int)) c3 (by simpa using hf')) fun k => ?_
          show fact_Fact_43.l2 (k + 1) _ _ _ _ _ = _
          simp only [fact_Fact_43.l2]
          rw [if_pos (by omega), w1, w64 (n := 2 * (bs : Int)) (by omega) (by omega), w64 (n := (b : Int) + 2 * (bs : Int)) (by omega) (by omega), show (b : Int) + 2 * (bs : Int) = ((b + 2 * bs : Nat) : Int) by omega]
    · by_cases h2 : bs < T.length
      · obtain ⟨t1, r1, T', R', rfl, rfl, e1, e2, e3, e4⟩ := hB.head (by omega)
        have hl1 : (t1 ++ T').length = t1.length + T'.length := by simp
        have hl2 : (r1 ++ R').length = r1.length + R'.length := by simp
        have e5 := e4.one (by omega)
        obtain ⟨C, c1, c2, c3⟩ := f48_ev _ r1 R' P [] a (a + bs) N (Nat.le_refl _) e3.1 e5.1 (by omega) (by omega) (by unfold Sm; simp; omega) ha (by omega) (by omega)
        refine ⟨C, .last (by omega) (SS.join e3 e5 c1) (by omega), fun fin hf => ?_⟩
        refine Ev.step (Ev.bind (g := fun k t => fact_Fact_43.l1 k t N ((2 * bs : Nat) : Int)) c3 (by simpa using hf)) fun k => ?_
        show fact_Fact_43.l2 (k + 1) _ _ _ _ _ = _
        simp only [fact_Fact_43.l2]
        rw [if_neg (by omega), w1, w2, if_pos (by omega)]
        simp
      · have e5 := hB.one (by omega)
        refine ⟨R, .last (by omega) e5 hlen, fun fin hf => ?_⟩
        refine Ev.step hf fun k => ?_
        show fact_Fact_43.l2 (k + 1) _ _ _ _ _ = _
        simp only [fact_Fact_43.l2]
        rw [if_neg (by omega), w1, w2, if_neg (by omega)]
theorem l43_1_ev : ∀ (n : Nat) (T R : List S55) (N bs : Nat), N ≤ bs + n → Bl bs T R → 0 < bs → Sm R.length → N = R.length → ∃ F, SS T F ∧ F.length = T.length ∧ Ev (fun k => fact_Fact_43.l1 k R N bs) F
  | n, T, R, N, bs, hn, hB, hb0, hs, hN => by
    unfold Sm at hs
    have hlen := hB.len
    by_cases h : bs < N
    · cases n with
      | zero => omega
      | succ n =>
        obtain ⟨R', q1, q2⟩ := l43_2_ev _ T R [] N 0 (2 * bs) bs (Nat.le_refl _) hB hb0 (by omega) (by unfold Sm; simpa using hs) (by simpa using hN) rfl (by omega)
        have hl' := q1.len
        obtain ⟨F, f1, f2, f3⟩ := l43_1_ev n T R' N (2 * bs) (by omega) q1 (by omega) (by unfold Sm; omega) (by omega)
        refine ⟨F, f1, f2, Ev.step (q2 F (by simpa using f3)) fun k => ?_⟩
        show fact_Fact_43.l1 (k + 1) _ _ _ = _
        simp only [fact_Fact_43.l1]
        rw [if_pos (by omega), w64 (n := 2 * (bs : Int)) (by omega) (by omega)]
        simp
    · refine ⟨R, hB.one (by omega), hlen, Ev.some fun k => ?_⟩
      simp only [fact_Fact_43.l1]
      rw [if_neg (by omega)]
/-- The library's stable sort. -/
theorem f33_ev (T : List S55) (hs : Sm T.length) : ∃ F, SS T F ∧ F.length = T.length ∧ Ev (fun k => fact_Fact_33.f k T) F := by
  obtain ⟨R, h1, h2⟩ := l43_0_ev _ T [] T.length 0 20 (Nat.le_refl _) (by simpa using hs) (by simp) rfl rfl
  have hl := h1.len
  obtain ⟨F, f1, f2, f3⟩ := l43_1_ev T.length T R T.length 20 (by omega) h1 (by omega) (by rw [hl]; exact hs) hl.symm
  refine ⟨F, f1, f2, ?_⟩
  have h3 := h2 F (by simpa using f3)
  unfold fact_Fact_33.f
  refine Ev.bind (g := fun _ t => some t) ?_ (Ev.const fun _ => rfl)
  simpa [fact_Fact_43.f] using h3
theorem eqA44 (d : Nat) (w : World) (x0 y0 : ByteArray) (x1 y1 : ByteArray) (x2 y2 : ByteArray) (x3 y3 : ByteArray) (x4 y4 : Int) :
    (Op.equalIn (d + 2) 44 (.agg #[.string x0, .string x1, .string x2, .string x3, .int .i64 x4]) (.agg #[.string y0, .string y1, .string y2, .string y3, .int .i64 y4])).run Try.prog w = .ok (x0.toList == y0.toList && (x1.toList == y1.toList && (x2.toList == y2.toList && (x3.toList == y3.toList && (x4 == y4))))) w := by
  refine eqA_of Try.underlying44 (by kernel_rfl) ?_
  refine eqf_cons (by rfl) (by go_simp; rfl) (by go_simp; rfl) (by go_simp) ?_
  refine eqf_cons (by rfl) (by go_simp; rfl) (by go_simp; rfl) (by go_simp) ?_
  refine eqf_cons (by rfl) (by go_simp; rfl) (by go_simp; rfl) (by go_simp) ?_
  refine eqf_cons (by rfl) (by go_simp; rfl) (by go_simp; rfl) (by go_simp) ?_
  exact eqf_last (by rfl) (by go_simp; rfl) (by go_simp; rfl) (by go_simp)
/-- One key, as '==' tells it. -/
def sameKey (x y : S55) : Bool := x.f0.f0.toList == y.f0.f0.toList && (x.f0.f1.toList == y.f0.f1.toList && (x.f0.f2.toList == y.f0.f2.toList && (x.f0.f3.toList == y.f0.f3.toList && (x.f0.f4 == y.f0.f4))))
/-- How many facts of the first one's key stand at the begin. -/
def runLen : List S55 → Nat
  | [] => 0
  | x :: xs => 1 + (xs.takeWhile (fun y => sameKey y x)).length
theorem runLen_le (l : List S55) : runLen l ≤ l.length := by
  cases l with
  | nil => simp [runLen]
  | cons x xs => simp only [runLen, List.length_cons]; have := (List.takeWhile_sublist (l := xs) (fun y => sameKey y x)).length_le; omega
theorem runLen_pos {l : List S55} (h : l ≠ []) : 1 ≤ runLen l := by
  cases l with
  | nil => exact absurd rfl h
  | cons x xs => simp only [runLen]; omega
theorem takeWhile_at {α : Type} (p : α → Bool) : ∀ (xs : List α) (i : Nat), i < (xs.takeWhile p).length → ∃ y, xs[i]? = some y ∧ p y = true
  | [], i, h => by simp at h
  | x :: xs, i, h => by
    by_cases hp : p x = true
    · cases i with
      | zero => exact ⟨x, rfl, hp⟩
      | succ i => rw [List.takeWhile_cons_of_pos hp] at h; obtain ⟨y, h1, h2⟩ := takeWhile_at p xs i (by simpa using h); exact ⟨y, by simpa using h1, h2⟩
    · rw [List.takeWhile_cons_of_neg hp] at h; simp at h
theorem takeWhile_end {α : Type} (p : α → Bool) : ∀ (xs : List α) (y : α), xs[(xs.takeWhile p).length]? = some y → p y = false
  | [], y, h => by simp at h
  | x :: xs, y, h => by
    by_cases hp : p x = true
    · rw [List.takeWhile_cons_of_pos hp] at h; exact takeWhile_end p xs y (by simpa using h)
    · rw [List.takeWhile_cons_of_neg hp] at h
      have : x = y := by simpa using h
      subst this; simpa using hp
/-- Within the run the key is the first one's. -/
theorem runIn_ {l : List S55} {n : Nat} (h1 : 1 ≤ n) (h2 : n < runLen l) : n < l.length ∧ sameKey (rd_T55 l (n : Int)) (rd_T55 l 0) = true := by
  cases l with
  | nil => simp [runLen] at h2
  | cons x xs =>
    simp only [runLen] at h2
    obtain ⟨y, hy, hp⟩ := takeWhile_at (fun y => sameKey y x) xs (n - 1) (by omega)
    have hlt := (List.getElem?_eq_some_iff.1 hy).1
    refine ⟨by simp only [List.length_cons]; omega, ?_⟩
    obtain ⟨m, rfl⟩ : ∃ m, n = m + 1 := ⟨n - 1, by omega⟩
    simp only [rd_T55, Int.toNat_natCast, List.getD_eq_getElem?_getD, List.getElem?_cons_succ]
    simp only [Nat.add_sub_cancel] at hy
    rw [hy]; exact hp
/-- Right behind the run it is another one. -/
theorem run_end {l : List S55} (h : runLen l < l.length) : sameKey (rd_T55 l (runLen l : Int)) (rd_T55 l 0) = false := by
  cases l with
  | nil => simp at h
  | cons x xs =>
    simp only [runLen, List.length_cons] at h ⊢
    have hlt : (xs.takeWhile (fun y => sameKey y x)).length < xs.length := by omega
    have := takeWhile_end (fun y => sameKey y x) xs _ (List.getElem?_eq_getElem hlt)
    rw [show (((1 + (xs.takeWhile (fun y => sameKey y x)).length : Nat)) : Int) = (((xs.takeWhile (fun y => sameKey y x)).length + 1 : Nat) : Int) by omega]
    simp only [rd_T55, Int.toNat_natCast, List.getD_eq_getElem?_getD, List.getElem?_cons_succ]
    rw [List.getElem?_eq_getElem hlt]
    exact this
attribute [local go_sem high] eqA44
theorem info29 : (Try.prog.info? 55).isSome = true := by kernel_rfl
set_option maxHeartbeats 1000000 in
/-- fact.runs: the argument is boxed; the function value captures the box. -/
theorem runs_in (n : Nat) (A : Option Addr) (m c : Nat) (w : World) :
    CallsIn Fence.wide n Try.prog 35 #[.slice A m c] w fun e w' => e = .returned (.func (.func 44) #[] #[.pointer (some ⟨w.heap.size, 0, none⟩)]) ∧ w' = w.alloc (.cells #[.slice A m c] 29) := by
  refine callsIn_of_wp Try.func35 rfl trivial ?_
  simp only [Try.ntmps35, List.size_toArray, List.length_cons, List.length_nil, Nat.reduceAdd, Nat.reduceSub, Array.replicate_succ, Array.replicate_zero, List.push_toArray, List.append_toArray, List.nil_append, List.cons_append]
  gi_wp2
  go_ret
  exact ⟨rfl, rfl⟩
set_option maxHeartbeats 4000000 in
set_option maxRecDepth 100000 in
/-- The iterator's own text. Jm cur rest: the box holds cur, of which rest is still to come; Jx: a round has said 'no more'. -/
theorem runs1_in (n : Nat) (hn : 1 ≤ n) (l Bn gs : Nat) (Jm : List S55 → List S55 → World → Prop) (Jx : World → Prop)
    (hcell : ∀ cur rest W, Jm cur rest W → ∃ A c, W.cell? ⟨Bn, 0, none⟩ = some (.slice A cur.length c) ∧ W.frozen? ⟨Bn, 0, none⟩ = false ∧ cur.length ≤ c ∧ c ≤ 9223372036854775807 ∧ Kd.C k55 W A cur.length cur ∧ (∀ ad, A = some ad → ad.block = gs))
    (hdrew : ∀ cur rest W m, Jm cur rest W → Jm cur rest (W.drewN m))
    (hset : ∀ cur rest W A c, Jm cur rest W → Kd.C k55 W A rest.length rest → rest.length ≤ c → c ≤ 9223372036854775807 → (∀ ad, A = some ad → ad.block = gs) → Jm rest rest (W.setCell ⟨Bn, 0, none⟩ (.slice A rest.length c)))
    (hY : ∀ cur W A c, Jm cur cur W → cur ≠ [] → W.cell? ⟨Bn, 0, none⟩ = some (.slice A cur.length c) → Kd.C k55 W A cur.length cur → cur.length ≤ c → YieldAt Fence.wide (n - 1) Try.prog l #[.slice A (runLen cur) c] W fun e W' =>
      (e = .returned (.bool true) ∧ Jm cur (cur.drop (runLen cur)) W') ∨ (e = .returned (.bool false) ∧ Jx W'))
    (xs : List S55) (W : World) (h0 : Jm xs xs W) :
    CallsIn Fence.wide n Try.prog 44 #[.func (.yield l) #[] #[], .pointer (some ⟨Bn, 0, none⟩)] W fun e W' => (∃ v, e = .returned v) ∧ (Jm [] [] W' ∨ Jx W') := by
  have HCELL := Aside0.mk hcell
  have HDREW := Aside0.mk hdrew
  have HSET := Aside0.mk hset
  have HY := Aside0.mk hY
  have H0 := Aside0.mk h0
  clear hcell hdrew hset hY h0
  refine callsIn_of_wp Try.func44 rfl trivial ?_
  simp only [Try.ntmps44, List.size_toArray, List.length_cons, List.length_nil, Nat.reduceAdd, Nat.reduceSub, Array.replicate_succ, Array.replicate_zero, List.push_toArray, List.append_toArray, List.nil_append, List.cons_append]
  gi_wp2
  gi_loopg [] xs.length (fun g wr => ∃ cur, Aside0 (cur.length ≤ g) ∧ Aside0 (Jm cur cur wr))
  case atStart => exact ⟨xs, ⟨Nat.le_refl _⟩, H0⟩
  case round =>
    obtain ⟨cur, HL, HJ⟩ := hrel
    obtain ⟨A, c, hc, hf, hle, hcm, hC, hAx⟩ := HCELL.out cur cur wr HJ.out
    clear hAx
    have HC := Aside0.mk hC
    have HLE := Aside0.mk hle
    have HCM := Aside0.mk hcm
    clear hC hle hcm
    by_cases hcur : cur = []
    · subst hcur
      simp only [List.length_nil] at hc
      gi_wp2
      go_end0
      exact ⟨⟨_, rfl⟩, .inl HJ.out⟩
    · have hpos : decide (0 < cur.length) = true := decide_eq_true (List.length_pos_iff.2 hcur)
      have hpos1 : 0 < cur.length := List.length_pos_iff.2 hcur
      have HCUR := Aside0.mk hcur
      clear hcur
      obtain ⟨g0, HG0⟩ : ∃ g0, Aside0 (gk = g0) := ⟨_, ⟨rfl⟩⟩
      gi_wp2
      gi_loopg [3] (runLen cur) (fun g v wr2 => ∃ (m q : Nat), v = .int .i64 m ∧ Aside0 (1 ≤ m) ∧ Aside0 (m ≤ runLen cur) ∧ Aside0 (runLen cur - m ≤ g) ∧ Aside0 (wr2 = wr.drewN q))
      case atStart => exact ⟨1, 0, by go_num, ⟨Nat.le_refl _⟩, ⟨runLen_pos HCUR.out⟩, ⟨Nat.sub_le _ _⟩, ⟨rfl⟩⟩
      case round =>
        obtain ⟨m, q, rfl, HM1, HM2, HG, HW⟩ := hrel
        obtain rfl := HW.out
        clear HW
        have hcq : (wr.drewN q).cell? ⟨Bn, 0, none⟩ = some (.slice A cur.length c) := hc
        have hfq : (wr.drewN q).frozen? ⟨Bn, 0, none⟩ = false := hf
        have HCQ := Aside0.mk (show Kd.C k55 (wr.drewN q) A cur.length cur from HC.out)
        by_cases hm : m < runLen cur
        · obtain ⟨hlt, hs⟩ := runIn_ HM1.out hm
          obtain ⟨ad, e1, x0, x1, x2, x3, x4, _⟩ := at_T55 HCQ.out (m : Int) (by omega) (by omega)
          subst e1
          obtain ⟨ad', e2, y0, y1, y2, y3, y4, _⟩ := at_T55 HCQ.out 0 (by omega) (by omega)
          obtain rfl : ad = ad' := by injection e2
          clear e2
          have HM := Aside0.mk hm
          simp only [sameKey, Bool.and_eq_true] at hs
          obtain ⟨s0, s1, s2, s3, s4⟩ := hs
          have hg1 : decide (m < cur.length) = true := decide_eq_true hlt
          have hg2 : decide ((m : Int) < (cur.length : Int)) = true := decide_eq_true (by omega)
          have hg3 : (0 : Int) ≤ (m : Int) := by omega
          have hg4 : (0 : Int) < (cur.length : Int) := by omega
          clear hm
          simp only [Int.toNat_natCast, Int.toNat_zero, Nat.zero_mul, Addr.add_zero'] at x0 x1 x2 x3 x4 y0 y1 y2 y3 y4
          have hu44 := Try.underlying44
          have hu55 := Try.underlying55
          have hmb : (m : Int) + 1 ≤ 9223372036854775807 := by have := HCM.out; have := HLE.out; omega
          obtain ⟨wq, hwq⟩ : ∃ wq, wr.drewN q = wq := ⟨_, rfl⟩
          have HWQ := Aside0.mk hwq
          rw [hwq] at hcq hfq HCQ x0 x1 x2 x3 x4 y0 y1 y2 y3 y4 ⊢
          clear hc hf hwq
          gi_wp2
          gi_quiet (fail)
          gi_wp2
          gi_roundg (runLen cur - (m + 1))
          case measure => have := HG.out; have := HM.out; omega
          case rel => exact ⟨m + 1, q + nq, by go_num, ⟨by omega⟩, ⟨HM.out⟩, ⟨Nat.le_refl _⟩, ⟨by rw [← HWQ.out, World.drewN_drewN]⟩⟩
        · obtain rfl : m = runLen cur := by have := HM2.out; omega
          clear HM1 HM2 HG hm
          have hrb : (runLen cur : Int) + 1 ≤ 9223372036854775807 ∨ True := .inr trivial
          clear hrb
          obtain ⟨ad, e1, _⟩ := HCQ.out.2.2 hpos1
          subst e1
          obtain ⟨i55, hi55, hz55⟩ := Option.map_eq_some_iff.1 info55
          have HI := Aside0.mk hi55
          have HI6 := Aside0.mk (show i55.size = 6 from by simp only [Prod.mk.injEq] at hz55; exact hz55.2.1)
          clear hi55 hz55
          have hu44 := Try.underlying44
          have hu55 := Try.underlying55
          have HJQ := Aside0.mk (HDREW.out _ _ _ q HJ.out)
          have hmc : runLen cur ≤ c := Nat.le_trans (runLen_le cur) HLE.out
          have hmc' : (0 : Int) ≤ (runLen cur : Int) := by omega
          obtain ⟨wq, hwq⟩ : ∃ wq, wr.drewN q = wq := ⟨_, rfl⟩
          by_cases hlt : runLen cur < cur.length
          · have hs := run_end hlt
            simp only [sameKey] at hs
            obtain ⟨ad1, e1, x0, x1, x2, x3, x4, _⟩ := at_T55 HCQ.out (runLen cur : Int) (by omega) (by omega)
            obtain rfl : ad = ad1 := by injection e1
            obtain ⟨ad', e2, y0, y1, y2, y3, y4, _⟩ := at_T55 HCQ.out 0 (by omega) (by omega)
            obtain rfl : ad = ad' := by injection e2
            clear e1 e2
            have hg1 : decide (runLen cur < cur.length) = true := decide_eq_true hlt
            have hg2 : decide ((runLen cur : Int) < (cur.length : Int)) = true := decide_eq_true (by omega)
            have hg3 : (0 : Int) ≤ (runLen cur : Int) := by omega
            have hg4 : (0 : Int) < (cur.length : Int) := by omega
            simp only [Int.toNat_natCast, Int.toNat_zero, Nat.zero_mul, Addr.add_zero'] at x0 x1 x2 x3 x4 y0 y1 y2 y3 y4
            rw [hwq] at hcq hfq HCQ HJQ x0 x1 x2 x3 x4 y0 y1 y2 y3 y4 ⊢
            clear hc hf hwq
            gi_wp2
            gi_quiet (fail)
            clear x0 x1 x2 x3 x4 y0 y1 y2 y3 y4
            obtain ⟨fn, tmps, assign, body, hy, hR⟩ := HY.out cur (wq.drewN nq) (some ad) c (HDREW.out _ _ _ _ HJQ.out) HCUR.out hcq HCQ.out HLE.out
            gi_wp2
            refine hR.mono ?_
            rintro e W3 (⟨rfl, hJ3⟩ | ⟨rfl, hJx3⟩)
            · obtain ⟨A3, c3, hc3, hf3, hle3, hcm3, hC3, hA3⟩ := HCELL.out _ _ W3 hJ3
              obtain ⟨ad3, e3, _⟩ := hC3.2.2 hpos1
              subst e3
              have hn3 : runLen cur ≤ cur.length := runLen_le cur
              have cutf := cut_from (P := Try.prog) 29 55 .i64 Try.underlying29 HI.out 6 HI6.out (some ad3) cur.length c3 (runLen cur) (by omega) (by omega)
              have hC4 := Kd.C_drop (m := runLen cur) (c := c3) hC3 hn3 hle3
              have hJ4 := HSET.out _ _ W3 _ (c3 - runLen cur) hJ3 hC4 (by simp only [List.length_drop]; omega) (by omega) (fun ad_ e_ => by
                split at e_
                · exact hA3 _ e_
                · cases e_; rw [← hA3 ad3 rfl]; simp only [Addr.add]; split <;> rfl)
              simp only [Int.toNat_natCast] at cutf
              rw [List.length_drop, show k55.sz = 6 from rfl] at hJ4
              have HJa := Aside0.mk (show c3 = runLen cur → Jm (cur.drop (runLen cur)) (cur.drop (runLen cur)) (W3.setCell ⟨Bn, 0, none⟩ (.slice (some ad3) (cur.length - runLen cur) 0)) from fun e => by rw [if_pos e, e, Nat.sub_self] at hJ4; exact hJ4)
              have HJb := Aside0.mk (show ¬ c3 = runLen cur → Jm (cur.drop (runLen cur)) (cur.drop (runLen cur)) (W3.setCell ⟨Bn, 0, none⟩ (.slice (some (ad3.add (runLen cur * 6))) (cur.length - runLen cur) (c3 - runLen cur))) from fun e => by rw [if_neg e] at hJ4; exact hJ4)
              have HN3 := Aside0.mk hn3
              have HL1 := Aside0.mk (show (cur.drop (runLen cur)).length ≤ g0 - 1 ∧ 1 ≤ g0 from by have := HL.out; have := HG0.out; have := runLen_pos HCUR.out; simp only [List.length_drop]; omega)
              clear hJ4 hC4 hC3 hJ3 hn3 hle3 hcm3 hA3 HJQ
              gi_wp2
              all_goals
                gi_roundg (g0 - 1)
                case measure => have := HG0.out; have := HL1.out; omega
                case rel => exact ⟨cur.drop (runLen cur), ⟨HL1.out.1⟩, ⟨by first | exact HJa.out (by assumption) | exact HJb.out (by assumption)⟩⟩
            · gi_wp2
              refine bodyPost_ret (results_none rfl _ _ _) rfl ?_
              exact ⟨⟨_, rfl⟩, .inr hJx3⟩
          · have hg1 : decide (runLen cur < cur.length) = false := decide_eq_false hlt
            have hg2 : decide ((runLen cur : Int) < (cur.length : Int)) = false := decide_eq_false (by omega)
            rw [hwq] at hcq hfq HCQ HJQ ⊢
            clear hc hf hwq
            gi_wp2
            gi_quiet (fail)
            obtain ⟨fn, tmps, assign, body, hy, hR⟩ := HY.out cur (wq.drewN nq) (some ad) c (HDREW.out _ _ _ _ HJQ.out) HCUR.out hcq HCQ.out HLE.out
            gi_wp2
            refine hR.mono ?_
            rintro e W3 (⟨rfl, hJ3⟩ | ⟨rfl, hJx3⟩)
            · obtain ⟨A3, c3, hc3, hf3, hle3, hcm3, hC3, hA3⟩ := HCELL.out _ _ W3 hJ3
              obtain ⟨ad3, e3, _⟩ := hC3.2.2 hpos1
              subst e3
              have hn3 : runLen cur ≤ cur.length := runLen_le cur
              have cutf := cut_from (P := Try.prog) 29 55 .i64 Try.underlying29 HI.out 6 HI6.out (some ad3) cur.length c3 (runLen cur) (by omega) (by omega)
              have hC4 := Kd.C_drop (m := runLen cur) (c := c3) hC3 hn3 hle3
              have hJ4 := HSET.out _ _ W3 _ (c3 - runLen cur) hJ3 hC4 (by simp only [List.length_drop]; omega) (by omega) (fun ad_ e_ => by
                split at e_
                · exact hA3 _ e_
                · cases e_; rw [← hA3 ad3 rfl]; simp only [Addr.add]; split <;> rfl)
              simp only [Int.toNat_natCast] at cutf
              rw [List.length_drop, show k55.sz = 6 from rfl] at hJ4
              have HJa := Aside0.mk (show c3 = runLen cur → Jm (cur.drop (runLen cur)) (cur.drop (runLen cur)) (W3.setCell ⟨Bn, 0, none⟩ (.slice (some ad3) (cur.length - runLen cur) 0)) from fun e => by rw [if_pos e, e, Nat.sub_self] at hJ4; exact hJ4)
              have HJb := Aside0.mk (show ¬ c3 = runLen cur → Jm (cur.drop (runLen cur)) (cur.drop (runLen cur)) (W3.setCell ⟨Bn, 0, none⟩ (.slice (some (ad3.add (runLen cur * 6))) (cur.length - runLen cur) (c3 - runLen cur))) from fun e => by rw [if_neg e] at hJ4; exact hJ4)
              have HN3 := Aside0.mk hn3
              have HL1 := Aside0.mk (show (cur.drop (runLen cur)).length ≤ g0 - 1 ∧ 1 ≤ g0 from by have := HL.out; have := HG0.out; have := runLen_pos HCUR.out; simp only [List.length_drop]; omega)
              clear hJ4 hC4 hC3 hJ3 hn3 hle3 hcm3 hA3 HJQ
              gi_wp2
              all_goals
                gi_roundg (g0 - 1)
                case measure => have := HG0.out; have := HL1.out; omega
                case rel => exact ⟨cur.drop (runLen cur), ⟨HL1.out.1⟩, ⟨by first | exact HJa.out (by assumption) | exact HJb.out (by assumption)⟩⟩
            · gi_wp2
              refine bodyPost_ret (results_none rfl _ _ _) rfl ?_
              exact ⟨⟨_, rfl⟩, .inr hJx3⟩
def fact_Clone.f (l0 : List S55) : Option (List S55) := if l0.length < 1759218604441 then some l0 else none
set_option maxHeartbeats 8000000 in
set_option maxRecDepth 100000 in
theorem fact_Clone.calls (A0 : Option Addr) (c0 : Nat) (l0 : List (S55)) (r : List (S55)) (w : World) (hr0 : Kd.C k55 w A0 l0.length l0) (hc0 : l0.length ≤ c0) (h : fact_Clone.f l0 = some r) :
    Calls Try.prog 32 #[.slice A0 l0.length c0] w fun e w' => ∃ v0_ : Value, e = .returned (v0_) ∧ Kd.R k55 55 w' w.heap.size (fun _ => True) v0_ r ∧ Below w.heap.size w w' := by
  have HR0 := Aside0.mk hr0
  have HC0 := Aside0.mk hc0
  have H : (if l0.length < 1759218604441 then some l0 else none) = some r := h
  clear h
  by_cases c1 : l0.length < 1759218604441
  case neg => rw [if_neg c1] at H; exact absurd H (by simp)
  rw [if_pos c1] at H
  obtain rfl := Option.some.inj H
  clear H
  have LM := Aside0.mk c1
  clear c1
  have q29 : ∀ (w : World) (a : Option Addr) (n c n' c' : Nat), (binOp .eql 29 (.slice a n c) (.slice none n' c')).run Try.prog w = .ok (.bool a.isNone) w := fun w a n c n' c' => Lib.run_eql_slice_nil w _ _ a n c n' c' Try.underlying29
  cases A0 with
  | none =>
    obtain rfl : l0 = [] := by
      cases l0 with
      | nil => rfl
      | cons x xs => obtain ⟨ad, e, _⟩ := hr0.2.2 (by simp); cases e
    clear hr0 hc0
    go_enter Try.func32, Try.ntmps32
    go_wp2
    go_ret
    exact ⟨_, rfl, Kd.R_nil _ _ _ _ _, Below.refl _ _⟩
  | some ad =>
    clear hr0 hc0
    have HB := Aside0.mk (Below.refl w.heap.size w)
    go_enter Try.func32, Try.ntmps32
    go_wp2_with (first | ((with_reducible refine gate_dst (N := 5) rfl ?_); refine Kd.R_lit k55 _ 55 ?hg (N := 5) ?hd (xs := ([] : List (S55))) (inner := []) (ok := fun _ => True) (okp := fun _ => True) ?hr ?hp (fun _ hk => hk) trivial (Below.refl _ _) (Nat.le_refl _) (by simp) ?_; (case hd => rfl); (case hg => rfl); (case hr => first | (go_simp; done) | (go_simp; rfl)); (case hp => exact (Reps.none _ _)); intro v269 w6 ho7 hb hg_ hnew_; clear hg_ hnew_; have n0_ := Aside0.mk (Kd.R_lower ho7 (below_size (by repeat (first | (with_reducible first | exact HB.out | apply below_alloc | apply pw_below_drewN | apply below_drew1) | exact HB.out)))); have n1_ := Aside0.mk (below_step (by repeat (first | (with_reducible first | exact HB.out | apply below_alloc | apply pw_below_drewN | apply below_drew1) | exact HB.out)) hb); clear HB; have HO270 := n0_; have HB := n1_; clear n0_ n1_; clear hb ho7) | ((with_reducible refine gate_builtin (b := .append) (xs := #[.tmp 5, .tmp 6]) rfl ?_); at_builtin; refine Kd.R_append_rows k55 (w0 := w) w.heap.size rfl (.tmp 5) (.tmp 6) 29 55 (.agg #[(.string ⟨#[]⟩), (.string ⟨#[]⟩), (.string ⟨#[]⟩), (.string ⟨#[]⟩), (.int .i64 0), (.int .i64 0)]) 80 rfl Try.underlying29 info55 rfl (by decide) (by omega) v269 [] l0 _ _ _ (fun _ => True) (fun _ => False) rfl rfl ?aO ?aR (fun _ _ h => h) (fun _ h => h.elim) ?aF ?aB ?aS ?aL ?_; (case aR => repeat (first | exact (Kd.C_below HR0.out HB.out) | (with_reducible refine Kd.C_alloc ?_ _) | (with_reducible refine Kd.C_drewN ?_ _) | (with_reducible refine Kd.C_drew ?_))); (case aB => exact (by repeat (first | (with_reducible first | exact HB.out | apply below_alloc | apply pw_below_drewN | apply below_drew1) | exact HB.out))); (case aF => exact (fun _ _ => trivial)); (case aO => exact (by (with_reducible repeat (first | apply Kd.R_alloc | apply Kd.R_drewN | apply Kd.R_drew)); exact HO270.out)); (case aS => exact (below_size (by repeat (first | (with_reducible first | exact HB.out | apply below_alloc | apply pw_below_drewN | apply below_drew1) | exact HB.out)))); (case aL => have := LM.out; simp; omega); intro v272 w8 ho hb hg hat; have n0_ := Aside0.mk (hb); have n1_ := Aside0.mk (ho); clear HB; clear HO270; have HB := n0_; have HO273 := n1_; clear n0_ n1_; clear ho hb hg hat))
    go_ret
    exact ⟨_, rfl, by simpa using Kd.R_mono HO273.out (fun _ hk => trivial), HB.out⟩
/-- The sum of a run: (sum, 0), or what did not fit. -/
def ofSum (acc : Int) : List S55 → Option (Int × Int)
  | [] => some (acc, 0)
  | x :: xs => (cent_Add.f acc x.f1).bind fun r => if r.2 = 0 then ofSum r.1 xs else some r
/-- Run by run. -/
def ofGo : Nat → List S55 → List S55 → Option (List S55 × Int)
  | 0, _, _ => none
  | k + 1, cur, out => if cur.length = 0 then (if (out.length : Int) > 2000 then some ([], 4) else some (out, 0)) else
      (ofSum 0 (cur.take (runLen cur))).bind fun r => if r.2 = 0 then (if r.1 = 0 then ofGo k (cur.drop (runLen cur)) out else if out.length < 1759218604441 then ofGo k (cur.drop (runLen cur)) (out ++ [⟨(rd_T55 cur 0).f0, r.1⟩]) else none) else some ([], r.2)
def fact_Of.f (k : Nat) (l0 : List S55) : Option (List S55 × Int) := (fact_Clone.f l0).bind fun c => (fact_Fact_33.f k c).bind fun s => ofGo k s []
theorem ofGo_mono : ∀ k cur out, LeO (ofGo k cur out) (ofGo (k + 1) cur out)
  | 0, _, _ => fun r h => by simp [ofGo] at h
  | k + 1, cur, out => by
    unfold ofGo
    refine LeO.ite (LeO.refl _) (LeO.bind (LeO.refl _) (fun r => LeO.ite (LeO.ite (ofGo_mono k _ _) (LeO.ite (ofGo_mono k _ _) (LeO.refl _))) (LeO.refl _)))
theorem fact_Of.mono : ∀ a0 k, LeO (fact_Of.f k a0) (fact_Of.f (k + 1) a0) := fun a0 k => by
  unfold fact_Of.f
  exact LeO.bind (LeO.refl _) (fun c => LeO.bind (fact_Fact_33.mono _ _) (fun s => ofGo_mono k _ _))
/-- Facts hold no addresses: what reads in one world reads wherever its block is the same. -/
theorem k55_any {w w' : World} {x : S55} {cs : List Value} (h : k55.K w x cs) : k55.K w' x cs := by
  obtain rfl := k55_open h
  exact k55_mk w' x
theorem C_block {W W' : World} {A : Option Addr} {n gs : Nat} {xs : List S55} (hA : ∀ ad, A = some ad → ad.block = gs) (hg : W'.heap[gs]? = W.heap[gs]?) (h : Kd.C k55 W A n xs) : Kd.C k55 W' A n xs := by
  refine ⟨h.1, h.2.1, fun hn => ?_⟩
  obtain ⟨ad, e, hc⟩ := h.2.2 hn
  refine ⟨ad, e, fun j p hj => ?_⟩
  obtain ⟨c, h1, h2, h3⟩ := hc j p hj
  refine ⟨c, h1, k55_any h2, fun i u hu => ?_⟩
  have hb : (ad.add (j * k55.sz + i)).block = gs := by rw [← hA ad e]; simp only [Addr.add]; split <;> rfl
  rw [World.cell?_of_block (w := W) (by rw [hb]; exact hg)]
  exact h3 i u hu
/-- What stands while the loop runs: the results' cells, the list that grows, the box of what is still to come, the block for the rounds, the loop's record, the sorted facts. -/
structure Fx (w0 W5 : World) (b4 gs : Nat) (oL : Obj) (cur : List S55) (vo : Value) (out : List S55) (W : World) : Prop where
  r2 : W.heap[w0.heap.size]? = some (.cells #[.slice none 0 0] 30 (0, 0))
  r3 : W.heap[w0.heap.size + 1]? = some (.cells #[.int .i64 0] 31 (0, 0))
  r4 : W.heap[b4]? = some (.cells #[vo] 30 (0, 0))
  rB : ∃ A c, W.heap[b4 + 1]? = some (.cells #[.slice A cur.length c] 29 (0, 0)) ∧ cur.length ≤ c ∧ c ≤ 9223372036854775807 ∧ Kd.C k55 W5 A cur.length cur ∧ (∀ ad, A = some ad → ad.block = gs)
  rD : W.heap[b4 + 2]? = some (.deferred (some []))
  rL : W.heap[b4 + 3]? = some oL
  rg : W.heap[gs]? = W5.heap[gs]?
  ro : Kd.R k55 55 W w0.heap.size (fun k => k ≠ gs) vo out
  rb : Below w0.heap.size w0 W
  lt : w0.heap.size + 1 ≤ gs ∧ gs < b4
  rn : oL.isCells = false
theorem Fx.below {w0 W5 : World} {b4 gs : Nat} {oL : Obj} {cur : List S55} {vo : Value} {out : List S55} {W W' : World} (h : Fx w0 W5 b4 gs oL cur vo out W) (hb : Below W.heap.size W W') : Fx w0 W5 b4 gs oL cur vo out W' := by
  have hL := (Array.getElem?_eq_some_iff.1 h.rL).1
  obtain ⟨l1, l2⟩ := h.lt
  obtain ⟨A, c, hB, h1, h2, h3, h4⟩ := h.rB
  exact ⟨(hb.block _ (by omega)).trans h.r2, (hb.block _ (by omega)).trans h.r3, (hb.block _ (by omega)).trans h.r4, ⟨A, c, (hb.block _ (by omega)).trans hB, h1, h2, h3, h4⟩,
    (hb.block _ (by omega)).trans h.rD, (hb.block _ (by omega)).trans h.rL, (hb.block _ (by omega)).trans h.rg, Kd.R_below h.ro hb, h.rb.trans (hb.mono h.rb.size), h.lt, h.rn⟩
/-- The loop's record turns. -/
theorem Fx.record {w0 W5 : World} {b4 gs : Nat} {oL : Obj} {cur : List S55} {vo : Value} {out : List S55} {W : World} (h : Fx w0 W5 b4 gs oL cur vo out W) (o' : Obj) (hc : o'.isCells = false) : Fx w0 W5 b4 gs o' cur vo out (W.putObj (b4 + 3) o') := by
  have hL := (Array.getElem?_eq_some_iff.1 h.rL).1
  obtain ⟨l1, l2⟩ := h.lt
  obtain ⟨A, c, hB, h1, h2, h3, h4⟩ := h.rB
  have ne : ∀ k, k ≠ b4 + 3 → (W.putObj (b4 + 3) o').heap[k]? = W.heap[k]? := fun k hk => World.putObj_heap_other hk
  refine ⟨(ne _ (by omega)).trans h.r2, (ne _ (by omega)).trans h.r3, (ne _ (by omega)).trans h.r4, ⟨A, c, (ne _ (by omega)).trans hB, h1, h2, h3, h4⟩,
    (ne _ (by omega)).trans h.rD, World.putObj_heap_same hL, (ne _ (by omega)).trans h.rg, ?_, ?_, h.lt, hc⟩
  · refine Kd.R_mono (Kd.R_move (Kd.R_bound h.ro) (fun k hk => ne k ?_)) (fun k hk => hk.1)
    rintro rfl
    obtain ⟨_, _, _, q, _, cells, hq⟩ := hk
    rw [h.rL] at hq
    cases hq
    have := h.rn
    simp [Obj.isCells] at this
  · exact h.rb.grown (row := some (b4 + 3)) (grownBy_putObj' W _ o') h.rb.size (fun k e => by cases e; omega)
/-- The box turns. -/
theorem Fx.box {w0 W5 : World} {b4 gs : Nat} {oL : Obj} {cur rest : List S55} {vo : Value} {out : List S55} {W : World} (h : Fx w0 W5 b4 gs oL cur vo out W) (A : Option Addr) (c : Nat) (hC : Kd.C k55 W5 A rest.length rest) (hle : rest.length ≤ c) (hcm : c ≤ 9223372036854775807) (hA : ∀ ad, A = some ad → ad.block = gs) :
    Fx w0 W5 b4 gs oL rest vo out (W.setCell ⟨b4 + 1, 0, none⟩ (.slice A rest.length c)) := by
  have hL := (Array.getElem?_eq_some_iff.1 h.rL).1
  obtain ⟨l1, l2⟩ := h.lt
  obtain ⟨A0, c0, hB, h1, h2, h3, h4⟩ := h.rB
  have ne : ∀ k, k ≠ b4 + 1 → (W.setCell ⟨b4 + 1, 0, none⟩ (.slice A rest.length c)).heap[k]? = W.heap[k]? := fun k hk => Below.heap_setCell _ _ _ _ hk
  refine ⟨(ne _ (by omega)).trans h.r2, (ne _ (by omega)).trans h.r3, (ne _ (by omega)).trans h.r4, ⟨A, c, by simpa using blk_set hB 0 (.slice A rest.length c), hle, hcm, hC, hA⟩,
    (ne _ (by omega)).trans h.rD, (ne _ (by omega)).trans h.rL, (ne _ (by omega)).trans h.rg, ?_, ?_, h.lt, h.rn⟩
  · exact Kd.R_set h.ro hB (by decide) 0 _
  · exact h.rb.setCell (p := ⟨b4 + 1, 0, none⟩) (by show _ ≤ b4 + 1; omega) _
/-- The list that grows turns. -/
theorem Fx.grow {w0 W5 : World} {b4 gs : Nat} {oL : Obj} {cur : List S55} {vo vo' : Value} {out out' : List S55} {W : World} (h : Fx w0 W5 b4 gs oL cur vo out W) {W' : World} (hg : W.grownBy W' vo.ownBlock) (hr : Kd.R k55 55 W' w0.heap.size (fun k => k ≠ gs) vo' out') :
    Fx w0 W5 b4 gs oL cur vo' out' (W'.setCell ⟨b4, 0, none⟩ vo') := by
  have hL := (Array.getElem?_eq_some_iff.1 h.rL).1
  obtain ⟨l1, l2⟩ := h.lt
  obtain ⟨A0, c0, hB, h1, h2, h3, h4⟩ := h.rB
  have n4 := Kd.R_ne h.ro h.r4 (by decide)
  have n2 := Kd.R_ne h.ro h.r2 (by decide)
  have n3 := Kd.R_ne h.ro h.r3 (by decide)
  have nB := Kd.R_ne h.ro hB (by decide)
  have own : ∀ k, vo.ownBlock = some k → k ≠ gs ∧ w0.heap.size ≤ k ∧ k < W.heap.size ∧ ∃ q, q ∈ 55 :: k55.E ∧ ∃ cells, W.heap[k]? = some (.cells cells q (0, 0)) := fun k hk => (Kd.R_bound h.ro).1 k hk
  have nD : some (b4 + 2) ≠ vo.ownBlock := fun e => by obtain ⟨_, _, _, q, _, cells, hq⟩ := own _ e.symm; rw [h.rD] at hq; cases hq
  have nG : some gs ≠ vo.ownBlock := fun e => (own _ e.symm).1 rfl
  have keep : ∀ k, k < W.heap.size → some k ≠ vo.ownBlock → k ≠ b4 → (W'.setCell ⟨b4, 0, none⟩ vo').heap[k]? = W.heap[k]? := fun k hk hn hb => (Below.heap_setCell _ _ _ _ hb).trans (hg.block k hk hn)
  have h4' : W'.heap[b4]? = some (.cells #[vo] 30 (0, 0)) := (hg.block _ (by omega) n4).trans h.r4
  refine ⟨(keep _ (by omega) n2 (by omega)).trans h.r2, (keep _ (by omega) n3 (by omega)).trans h.r3, by simpa using blk_set h4' 0 vo', ⟨A0, c0, (keep _ (by omega) nB (by omega)).trans hB, h1, h2, h3, h4⟩,
    (keep _ (by omega) nD (by omega)).trans h.rD, ?_, (keep _ (by omega) nG (by omega)).trans h.rg, Kd.R_set hr h4' (by decide) 0 _, ?_, h.lt, h.rn⟩
  · by_cases e : some (b4 + 3) = vo.ownBlock
    · obtain ⟨_, _, _, q, _, cells, hq⟩ := own _ e.symm
      rw [h.rL] at hq
      cases hq
      have := h.rn
      simp [Obj.isCells] at this
    · exact (keep _ hL e (by omega)).trans h.rL
  · exact (h.rb.grown hg h.rb.size (fun k e => (own k e).2.1)).setCell (p := ⟨b4, 0, none⟩) (by show _ ≤ b4; omega) _
theorem ofSum_ok (x : S44) : ∀ (R : List S55) (acc : Int), (∀ y ∈ R, cmpK x y.f0 = 0) → acc.natAbs + abt x R ≤ 4611686018427387904 → ofSum acc R = some (acc + amt x R, 0)
  | [], acc, h, hb => by simp [ofSum, amt]
  | y :: R, acc, h, hb => by
    have hy := h y (by simp)
    simp only [abt, if_pos hy] at hb
    have ih := ofSum_ok x R (acc + y.f1) (fun z hz => h z (by simp [hz])) (by omega)
    unfold ofSum
    rw [cent_fits acc y.f1 (by unfold Fit; omega) (by unfold Fit; omega) (by unfold Fit; omega)]
    simp only [Option.bind_some, if_true, ih, amt, if_pos hy]
    congr 2
    omega
theorem sameKey_iff (x y : S55) : sameKey x y = true ↔ x.f0 = y.f0 := by
  constructor
  · intro h
    simp only [sameKey, Bool.and_eq_true, beq_iff_eq, Lib.toList_data] at h
    obtain ⟨h0, h1, h2, h3, h4⟩ := h
    have e0 := bytes_eq h0
    have e1 := bytes_eq h1
    have e2 := bytes_eq h2
    have e3 := bytes_eq h3
    obtain ⟨⟨a0, a1, a2, a3, a4⟩, _⟩ := x
    obtain ⟨⟨b0, b1, b2, b3, b4⟩, _⟩ := y
    simp only at e0 e1 e2 e3 h4
    subst e0 e1 e2 e3 h4
    rfl
  · intro h
    simp [sameKey, h]
theorem tw_mem (p : S55 → Bool) : ∀ (l : List S55) (y : S55), y ∈ l.takeWhile p → p y = true
  | [], y, h => by simp at h
  | x :: l, y, h => by
    by_cases hx : p x = true
    · rw [List.takeWhile_cons_of_pos hx] at h
      rcases List.mem_cons.1 h with rfl | h
      · exact hx
      · exact tw_mem p l y h
    · rw [List.takeWhile_cons_of_neg hx] at h; simp at h
theorem dw_head (p : S55 → Bool) : ∀ (l : List S55) (z : S55) (D : List S55), l.dropWhile p = z :: D → ¬ p z = true
  | [], z, D, h => by simp at h
  | x :: l, z, D, h => by
    by_cases hx : p x = true
    · rw [List.dropWhile_cons_of_pos hx] at h
      exact dw_head p l z D h
    · rw [List.dropWhile_cons_of_neg hx] at h
      injection h with h1 h2
      subst h1; exact hx
theorem run_split (x : S55) (xs : List S55) (hs : Srt (x :: xs)) : ∃ R D, (x :: xs).take (runLen (x :: xs)) = x :: R ∧ (x :: xs).drop (runLen (x :: xs)) = D ∧ xs = R ++ D ∧ (∀ y ∈ x :: R, cmpK x.f0 y.f0 = 0) ∧ (∀ y ∈ D, cmpK x.f0 y.f0 < 0) := by
  refine ⟨xs.takeWhile (fun y => sameKey y x), xs.dropWhile (fun y => sameKey y x), ?_, ?_, (List.takeWhile_append_dropWhile).symm, ?_, ?_⟩
  · show (x :: xs).take (1 + _) = _
    rw [Nat.add_comm, List.take_succ_cons]
    congr 1
    conv => lhs; arg 2; rw [← List.takeWhile_append_dropWhile (p := fun y => sameKey y x) (l := xs)]
    rw [List.take_left]
  · show (x :: xs).drop (1 + _) = _
    rw [Nat.add_comm, List.drop_succ_cons]
    conv => lhs; arg 2; rw [← List.takeWhile_append_dropWhile (p := fun y => sameKey y x) (l := xs)]
    rw [List.drop_left]
  · intro y hy
    rcases List.mem_cons.1 hy with rfl | hy
    · exact cmpK_good.refl _
    · have := tw_mem _ _ _ hy
      rw [(sameKey_iff y x).1 this]
      exact cmpK_good.refl _
  · intro y hy
    obtain ⟨z, D', hD⟩ : ∃ z D', xs.dropWhile (fun y => sameKey y x) = z :: D' := cons_of_pos (List.length_pos_of_mem hy)
    have hz : ¬ sameKey z x = true := dw_head (fun y => sameKey y x) xs z D' hD
    have hsD : Srt (z :: D') := by
      have h1 := (List.pairwise_cons.1 hs).2
      rw [← List.takeWhile_append_dropWhile (p := fun y => sameKey y x) (l := xs), hD] at h1
      exact Srt.right h1
    have hxz : cmpS x z ≤ 0 := (List.pairwise_cons.1 hs).1 z (by
      rw [← List.takeWhile_append_dropWhile (p := fun y => sameKey y x) (l := xs), hD]; simp)
    have hne : ¬ cmpK x.f0 z.f0 = 0 := fun e => hz ((sameKey_iff z x).2 ((cmpK_zero _ _).1 e).symm)
    rw [hD] at hy
    exact lt_le (x := x) (y := z) (z := y) (by unfold cmpS at hxz ⊢; omega) (first_le hsD y hy)
theorem ofGo_ev : ∀ (n : Nat) (cur out : List S55), cur.length ≤ n → Srt cur → Rise out → (∀ y ∈ out, ∀ z ∈ cur, cmpS y z < 0) → (∀ y ∈ out, y.f1 ≠ 0) → (∀ x, abt x cur ≤ 4611686018427387904) → out.length + cur.length ≤ 2000 →
    ∃ r, Ev (fun k => ofGo k cur out) (out ++ r, 0) ∧ Rise (out ++ r) ∧ (∀ y ∈ out ++ r, y.f1 ≠ 0) ∧ (∀ x, amt x r = amt x cur) ∧ r.length ≤ cur.length
  | n, [], out, hn, hs, hr, hx, hz, hb, hl => by
    refine ⟨[], Ev.some fun k => ?_, by simpa using hr, by simpa using hz, fun x => rfl, Nat.le_refl _⟩
    unfold ofGo
    rw [if_pos (show ([] : List S55).length = 0 from rfl), if_neg (by simp at hl; omega)]
    simp
  | 0, x :: xs, out, hn, hs, hr, hx, hz, hb, hl => by simp at hn
  | n + 1, x :: xs, out, hn, hs, hr, hx, hz, hb, hl => by
    obtain ⟨R, D, e1, e2, e3, hR, hD⟩ := run_split x xs hs
    have hxs : x :: xs = (x :: R) ++ D := by rw [e3]; rfl
    have hsum := ofSum_ok x.f0 (x :: R) 0 hR (by have := hb x.f0; rw [hxs, abt_app] at this; simp; omega)
    have hD0 : ∀ y ∈ D, ¬ cmpK x.f0 y.f0 = 0 := fun y hy e => by have := hD y hy; omega
    have hlen : xs.length = R.length + D.length := by rw [e3]; simp
    simp only [List.length_cons] at hn hl
    have rd0 : (rd_T55 (x :: xs) 0).f0 = x.f0 := rfl
    have hne : ¬ (x :: xs).length = 0 := by simp
    have hother : ∀ k : S44, ¬ cmpK k x.f0 = 0 → amt k (x :: R) = 0 := fun k hk => amt_none _ _ fun y hy e => hk (by
      have := (cmpK_zero _ _).1 (hR y hy)
      rw [this]; exact e)
    have hbD : ∀ k, abt k D ≤ 4611686018427387904 := fun k => by have := hb k; rw [hxs, abt_app] at this; omega
    have hsD : Srt D := by rw [hxs] at hs; exact hs.right
    have st : ∀ k, ofGo (k + 1) (x :: xs) out = if amt x.f0 (x :: R) = 0 then ofGo k D out else if out.length < 1759218604441 then ofGo k D (out ++ [⟨x.f0, amt x.f0 (x :: R)⟩]) else none := fun k => by
      conv => lhs; unfold ofGo
      rw [if_neg hne, e1, hsum, Option.bind_some, e2, rd0]
      simp
    by_cases h0 : amt x.f0 (x :: R) = 0
    · obtain ⟨r, g1, g2, g3, g4, g5⟩ := ofGo_ev n D out (by omega) hsD hr (fun y hy z hz' => hx y hy z (by rw [hxs]; simp [hz'])) hz hbD (by omega)
      refine ⟨r, Ev.step g1 fun k => by rw [st, if_pos h0], g2, g3, fun k => ?_, by simp; omega⟩
      rw [g4, hxs, amt_app]
      by_cases hk : cmpK k x.f0 = 0
      · rw [(cmpK_zero _ _).1 hk, h0]; omega
      · rw [hother k hk]; omega
    · obtain ⟨r, g1, g2, g3, g4, g5⟩ := ofGo_ev n D (out ++ [⟨x.f0, amt x.f0 (x :: R)⟩]) (by omega) hsD
        (List.pairwise_append.2 ⟨hr, List.pairwise_singleton _ _, fun y hy z hz' => by obtain rfl := List.mem_singleton.1 hz'; exact hx y hy x (by simp)⟩)
        (fun y hy z hz' => by
          rcases List.mem_append.1 hy with hy | hy
          · exact hx y hy z (by rw [hxs]; simp [hz'])
          · obtain rfl := List.mem_singleton.1 hy; exact hD z hz')
        (fun y hy => by
          rcases List.mem_append.1 hy with hy | hy
          · exact hz y hy
          · obtain rfl := List.mem_singleton.1 hy; exact h0) hbD (by simp; omega)
      refine ⟨⟨x.f0, amt x.f0 (x :: R)⟩ :: r, Ev.step (g := fun k => ofGo k D (out ++ [⟨x.f0, amt x.f0 (x :: R)⟩])) (by simpa using g1) fun k => by rw [st, if_neg h0, if_pos (by omega)], by simpa using g2, by simpa using g3, fun k => ?_, by simp; omega⟩
      rw [hxs, amt_app]
      show (if cmpK k x.f0 = 0 then amt x.f0 (x :: R) else 0) + amt k r = _
      rw [g4]
      by_cases hk : cmpK k x.f0 = 0
      · rw [if_pos hk, (cmpK_zero _ _).1 hk]
      · rw [if_neg hk, hother k hk]
/-- fact.Of, of facts whose sums fit. -/
theorem Of_ev (l : List S55) (hl : l.length ≤ 2000) (hb : ∀ x, abt x l ≤ 4611686018427387904) : ∃ r, Ev (fun k => fact_Of.f k l) (r, 0) ∧ IsCube l r ∧ r.length ≤ l.length := by
  obtain ⟨F, f1, f2, f3⟩ := f33_ev l (by unfold Sm; omega)
  obtain ⟨r, g1, g2, g3, g4, g5⟩ := ofGo_ev F.length F [] (Nat.le_refl _) f1.1 List.Pairwise.nil (by simp) (by simp) (fun x => by rw [f1.abt]; exact hb x) (by simp; omega)
  refine ⟨r, ?_, ⟨by simpa using g2, by simpa using g3, fun x => by rw [g4, f1.amt]⟩, by omega⟩
  unfold fact_Of.f fact_Clone.f
  simp only [if_pos (show l.length < 1759218604441 by omega), Option.bind_some]
  exact Ev.bind (g := fun k s => ofGo k s []) f3 (by simpa using g1)
end Go.Proofs.Ytdckeflggcefbaa.Y
namespace Go.Proofs.Ytdckeflggcefbaa.Y
open Go.RowKit Go.Proofs.YtdckeflggcefbaaW.PrintWords Go.Proofs.YtdckeflggcefbaaW.PrintLast Go.Proofs.YtdckeflggcefbaaW.PrintMore
attribute [local go_sem] max2_int min2_int max_two min_two max_three min_three max_four min_four   -- for this text's walks alone
set_option linter.unusedVariables false
set_option linter.unusedSimpArgs false

/-! ### comptrollerlaw09_Few: function 7 -/
def comptrollerlaw09_Few.l0 : Nat → List (S28) → List (S28) → Int → Int → Option (Bool)
 | 0, _, _, _, _ => none
 | k + 1, x0, x6, x7, x8 => if x8 < x7 then (if 0 ≤ x8 then (if x8 < (x6.length : Int) then (if (((rd_T28 x6 x8).f0.f0).size : Int) > 40 then (some false) else (if (((rd_T28 x6 x8).f0.f1).size : Int) > 40 then (some false) else (if (((rd_T28 x6 x8).f0.f2).size : Int) > 40 then (some false) else (if (((rd_T28 x6 x8).f0.f3).size : Int) > 40 then (some false) else (comptrollerlaw09_Few.l0 k x0 x6 x7 (wrap64 (x8 + 1))))))) else (none)) else (none)) else (some (decide ((x0.length : Int) ≤ 150)))
def comptrollerlaw09_Few.f (k : Nat) (l0 : List (S28)) : Option (Bool) := comptrollerlaw09_Few.l0 k l0 l0 (l0.length : Int) 0
theorem comptrollerlaw09_Few.mono_l : ∀ k, (∀ y0 y1 y2 y3, LeO (comptrollerlaw09_Few.l0 k y0 y1 y2 y3) (comptrollerlaw09_Few.l0 (k + 1) y0 y1 y2 y3))
 | 0 => fun _ _ _ _ r h => by simp [comptrollerlaw09_Few.l0] at h
 | k + 1 => by
  have ih0 := comptrollerlaw09_Few.mono_l k
  ·intro y0 y1 y2 y3
   unfold comptrollerlaw09_Few.l0
   repeat' first
   | (with_reducible exact ih0 _ _ _ _)
   | (with_reducible exact LeO.refl _)
   | (with_reducible exact LeO.none _)
   | (with_reducible refine LeO.ite ?_ ?_)
   | (with_reducible refine LeO.bind ?_ (fun _ => ?_))
   | exact ih0 _ _ _ _
   | exact LeO.none _
   | refine LeO.ite ?_ ?_
   | refine LeO.bind ?_ (fun _ => ?_)
theorem comptrollerlaw09_Few.mono : ∀ a0 k, LeO (comptrollerlaw09_Few.f k a0) (comptrollerlaw09_Few.f (k + 1) a0) := by
 intro a0 k
 have ih0 := comptrollerlaw09_Few.mono_l k
 unfold comptrollerlaw09_Few.f
 repeat' first
   | (with_reducible exact ih0 _ _ _ _)
   | (with_reducible exact LeO.refl _)
   | (with_reducible exact LeO.none _)
   | (with_reducible refine LeO.ite ?_ ?_)
   | (with_reducible refine LeO.bind ?_ (fun _ => ?_))
   | exact ih0 _ _ _ _
   | exact LeO.none _
   | refine LeO.ite ?_ ?_
   | refine LeO.bind ?_ (fun _ => ?_)
set_option maxHeartbeats 8000000 in
set_option maxRecDepth 100000 in
theorem comptrollerlaw09_Few.calls (k : Nat) (A0 : Option Addr) (c0 : Nat) (l0 : List (S28)) (r : Bool) (w : World) (hr0 : Kd.C k28 w A0 l0.length l0) (hc0 : l0.length ≤ c0) (h : comptrollerlaw09_Few.f k l0 = some r) :
  Calls Try.prog 7 #[.slice A0 l0.length c0] w fun e w' => e = .returned (.bool r) ∧ Below w.heap.size w w' := by
 have hu28 := Try.underlying28
 have hu24 := Try.underlying24
 have HR0 := Aside0.mk hr0
 have HC0 := Aside0.mk hc0
 clear hr0 hc0
 have HB := Aside0.mk (Below.refl w.heap.size w)
 have H : (comptrollerlaw09_Few.l0 k l0 l0 (l0.length : Int) 0) = some r := h
 clear h
 have H' := Aside0.mk H
 clear H
 go_enter Try.func7, Try.ntmps7
 go_wp2
 go_loopg [8] k (fun kq v8 w' => ∃ (x8_1 : Int), v8 = .int .i64 x8_1 ∧ Aside0 (comptrollerlaw09_Few.l0 kq l0 l0 (l0.length : Int) x8_1 = some r) ∧ Aside0 (kq ≤ k) ∧ Aside0 (Below w.heap.size w w'))
 case atStart => exact ⟨(0), rs_, H', ⟨Nat.le_refl _⟩, ⟨bw⟩⟩
 case round =>
  clear H'
  obtain ⟨x8_1, rfl, HA, HK1, HB⟩ := hrel
  cases gk with
  | zero => exact absurd HA.out (by simp [comptrollerlaw09_Few.l0])
  | succ k1 =>
   have H := HA.out
   clear HA
   simp only [comptrollerlaw09_Few.l0] at H
   by_cases c2 : x8_1 < (l0.length : Int)
   ·rw [if_pos c2] at H
    have c2b0 : decide (x8_1 < (l0.length : Int)) = true := decide_eq_true c2
    clear c2
    by_cases c3 : 0 ≤ x8_1
    ·rw [if_pos c3] at H
     have c3b0 : decide (0 ≤ x8_1) = true := decide_eq_true c3
     clear c3
     by_cases c4 : x8_1 < (l0.length : Int)
     ·rw [if_pos c4] at H
      have c4b0 : decide (x8_1 < (l0.length : Int)) = true := decide_eq_true c4
      clear c4
      by_cases c5 : (((rd_T28 l0 x8_1).f0.f0).size : Int) > 40
      ·rw [if_pos c5] at H
       have c5b0 : decide (40 < (((rd_T28 l0 x8_1).f0.f0).size : Int)) = true := decide_eq_true c5
       have c5b1 : decide (40 < ((rd_T28 l0 x8_1).f0.f0).size) = true := decide_eq_true (by omega)
       clear c5
       obtain rfl := Option.some.inj H
       have p233 : 0 ≤ (x8_1 : Int) := of_decide_eq_true as_
       have q233 : x8_1 < (l0.length : Int) := of_decide_eq_true as_
       obtain ⟨ad233, e233, hx233_0, hx233_1, hx233_2, hx233_3, hx233_4, hx233_5⟩ := at_T28 HR0.out x8_1 p233 q233
       cases e233
       replace hx233_0 := cb HB hx233_0
       replace hx233_1 := cb HB hx233_1
       replace hx233_2 := cb HB hx233_2
       replace hx233_3 := cb HB hx233_3
       replace hx233_4 := cb HB hx233_4
       replace hx233_5 := cb HB hx233_5
       replace p233 := eq_true p233
       replace q233 := eq_true q233
       go_wp2_with (first | ((with_reducible refine gate_dst (N := 4) rfl ?_); (try (refine gate_guard (by rfl) ?_; dsimp only)); refine box_event ?hg (N := 4) ?hd (cs := #[.string (⟨#[]⟩ : ByteArray), .string (⟨#[]⟩ : ByteArray), .string (⟨#[]⟩ : ByteArray), .string (⟨#[]⟩ : ByteArray), .int .i64 0, .int .i64 0]) (t := 28) ?hr ?_; (case hd => rfl); (case hg => rfl); (case hr => first | (go_simp; done) | (go_simp; rfl)); intro gb234 hg w6 hbox hb; have n0_ := Aside0.mk (below_step bw hb); have n1_ := Aside0.mk (hbox); have n2_ := Aside0.mk ((by rw [hg]; exact (below_size bw) : w.heap.size ≤ gb234)); have n3_ := Aside0.mk ((by rw [hg]; exact (below_size bw) : w.heap.size ≤ gb234)); clear HB; have HB := n0_; have BK234 := n1_; have GW234 := n2_; have GE234 := n3_; clear n0_ n1_ n2_ n3_; clear hb hbox hg; have hcz7_0 : w6.cell? ⟨gb234, 0, none⟩ = some (.string (⟨#[]⟩ : ByteArray)) := (blk_cell BK234.out 0).trans rfl; have hcz7_1 : w6.cell? ⟨gb234, 1, none⟩ = some (.string (⟨#[]⟩ : ByteArray)) := (blk_cell BK234.out 1).trans rfl; have hcz7_2 : w6.cell? ⟨gb234, 2, none⟩ = some (.string (⟨#[]⟩ : ByteArray)) := (blk_cell BK234.out 2).trans rfl; have hcz7_3 : w6.cell? ⟨gb234, 3, none⟩ = some (.string (⟨#[]⟩ : ByteArray)) := (blk_cell BK234.out 3).trans rfl; have hcz7_4 : w6.cell? ⟨gb234, 4, none⟩ = some (.int .i64 0) := (blk_cell BK234.out 4).trans rfl; have hcz7_5 : w6.cell? ⟨gb234, 5, none⟩ = some (.int .i64 0) := (blk_cell BK234.out 5).trans rfl; have hfz7_0 := blk_frozen BK234.out 0; have hfz7_1 := blk_frozen BK234.out 1; have hfz7_2 := blk_frozen BK234.out 2; have hfz7_3 := blk_frozen BK234.out 3; have hfz7_4 := blk_frozen BK234.out 4; have hfz7_5 := blk_frozen BK234.out 5) | ((with_reducible refine gate_dst (N := 5) rfl ?_); (try (refine gate_guard (by rfl) ?_; dsimp only)); refine box_event ?hg (N := 5) ?hd (cs := #[.string (⟨#[]⟩ : ByteArray), .string (⟨#[]⟩ : ByteArray), .string (⟨#[]⟩ : ByteArray), .string (⟨#[]⟩ : ByteArray), .int .i64 0]) (t := 24) ?hr ?_; (case hd => rfl); (case hg => rfl); (case hr => first | (go_simp; done) | (go_simp; rfl)); intro gb235 hg w8 hbox hb; have n0_ := Aside0.mk (blk_below (g := gb234) (o := .cells #[.string ((rd_T28 l0 x8_1).f0.f0), .string ((rd_T28 l0 x8_1).f0.f1), .string ((rd_T28 l0 x8_1).f0.f2), .string ((rd_T28 l0 x8_1).f0.f3), .int .i64 ((rd_T28 l0 x8_1).f0.f4), .int .i64 ((rd_T28 l0 x8_1).f1)] 28 (0, 0)) (by (with_reducible repeat (first | refine blk_drewN ?_ _ | refine blk_drew ?_ | refine blk_alloc ?_ _)); refine blk_put (cs := #[.string ((rd_T28 l0 x8_1).f0.f0), .string ((rd_T28 l0 x8_1).f0.f1), .string ((rd_T28 l0 x8_1).f0.f2), .string ((rd_T28 l0 x8_1).f0.f3), .int .i64 ((rd_T28 l0 x8_1).f0.f4), .int .i64 0]) ?_ 5 _ rfl; (with_reducible repeat (first | refine blk_drewN ?_ _ | refine blk_drew ?_ | refine blk_alloc ?_ _)); refine blk_put (cs := #[.string ((rd_T28 l0 x8_1).f0.f0), .string ((rd_T28 l0 x8_1).f0.f1), .string ((rd_T28 l0 x8_1).f0.f2), .string ((rd_T28 l0 x8_1).f0.f3), .int .i64 0, .int .i64 0]) ?_ 4 _ rfl; (with_reducible repeat (first | refine blk_drewN ?_ _ | refine blk_drew ?_ | refine blk_alloc ?_ _)); refine blk_put (cs := #[.string ((rd_T28 l0 x8_1).f0.f0), .string ((rd_T28 l0 x8_1).f0.f1), .string ((rd_T28 l0 x8_1).f0.f2), .string (⟨#[]⟩ : ByteArray), .int .i64 0, .int .i64 0]) ?_ 3 _ rfl; (with_reducible repeat (first | refine blk_drewN ?_ _ | refine blk_drew ?_ | refine blk_alloc ?_ _)); refine blk_put (cs := #[.string ((rd_T28 l0 x8_1).f0.f0), .string ((rd_T28 l0 x8_1).f0.f1), .string (⟨#[]⟩ : ByteArray), .string (⟨#[]⟩ : ByteArray), .int .i64 0, .int .i64 0]) ?_ 2 _ rfl; (with_reducible repeat (first | refine blk_drewN ?_ _ | refine blk_drew ?_ | refine blk_alloc ?_ _)); refine blk_put (cs := #[.string ((rd_T28 l0 x8_1).f0.f0), .string (⟨#[]⟩ : ByteArray), .string (⟨#[]⟩ : ByteArray), .string (⟨#[]⟩ : ByteArray), .int .i64 0, .int .i64 0]) ?_ 1 _ rfl; (with_reducible repeat (first | refine blk_drewN ?_ _ | refine blk_drew ?_ | refine blk_alloc ?_ _)); refine blk_put (cs := #[.string (⟨#[]⟩ : ByteArray), .string (⟨#[]⟩ : ByteArray), .string (⟨#[]⟩ : ByteArray), .string (⟨#[]⟩ : ByteArray), .int .i64 0, .int .i64 0]) ?_ 0 _ rfl; (with_reducible repeat (first | refine blk_drewN ?_ _ | refine blk_drew ?_ | refine blk_alloc ?_ _)); exact BK234.out) hb); have n1_ := Aside0.mk (below_step (by repeat (first | (with_reducible first | exact HB.out | apply below_alloc | apply pw_below_drewN | apply below_drew1 | refine below_set ?_ GE234.out) | exact HB.out)) hb); have n2_ := Aside0.mk (hbox); have n3_ := Aside0.mk ((by rw [hg]; exact (below_size (by repeat (first | (with_reducible first | exact HB.out | apply below_alloc | apply pw_below_drewN | apply below_drew1 | refine below_set ?_ GE234.out) | exact HB.out))) : w.heap.size ≤ gb235)); have n4_ := Aside0.mk ((by rw [hg]; exact (below_size (by repeat (first | (with_reducible first | exact HB.out | apply below_alloc | apply pw_below_drewN | apply below_drew1 | refine below_set ?_ GE234.out) | exact HB.out))) : w.heap.size ≤ gb235)); have n5_ := Aside0.mk ((by rw [hg]; exact Nat.ne_of_lt (blk_lt (g := gb234) (o := .cells #[.string ((rd_T28 l0 x8_1).f0.f0), .string ((rd_T28 l0 x8_1).f0.f1), .string ((rd_T28 l0 x8_1).f0.f2), .string ((rd_T28 l0 x8_1).f0.f3), .int .i64 ((rd_T28 l0 x8_1).f0.f4), .int .i64 ((rd_T28 l0 x8_1).f1)] 28 (0, 0)) (by (with_reducible repeat (first | refine blk_drewN ?_ _ | refine blk_drew ?_ | refine blk_alloc ?_ _)); refine blk_put (cs := #[.string ((rd_T28 l0 x8_1).f0.f0), .string ((rd_T28 l0 x8_1).f0.f1), .string ((rd_T28 l0 x8_1).f0.f2), .string ((rd_T28 l0 x8_1).f0.f3), .int .i64 ((rd_T28 l0 x8_1).f0.f4), .int .i64 0]) ?_ 5 _ rfl; (with_reducible repeat (first | refine blk_drewN ?_ _ | refine blk_drew ?_ | refine blk_alloc ?_ _)); refine blk_put (cs := #[.string ((rd_T28 l0 x8_1).f0.f0), .string ((rd_T28 l0 x8_1).f0.f1), .string ((rd_T28 l0 x8_1).f0.f2), .string ((rd_T28 l0 x8_1).f0.f3), .int .i64 0, .int .i64 0]) ?_ 4 _ rfl; (with_reducible repeat (first | refine blk_drewN ?_ _ | refine blk_drew ?_ | refine blk_alloc ?_ _)); refine blk_put (cs := #[.string ((rd_T28 l0 x8_1).f0.f0), .string ((rd_T28 l0 x8_1).f0.f1), .string ((rd_T28 l0 x8_1).f0.f2), .string (⟨#[]⟩ : ByteArray), .int .i64 0, .int .i64 0]) ?_ 3 _ rfl; (with_reducible repeat (first | refine blk_drewN ?_ _ | refine blk_drew ?_ | refine blk_alloc ?_ _)); refine blk_put (cs := #[.string ((rd_T28 l0 x8_1).f0.f0), .string ((rd_T28 l0 x8_1).f0.f1), .string (⟨#[]⟩ : ByteArray), .string (⟨#[]⟩ : ByteArray), .int .i64 0, .int .i64 0]) ?_ 2 _ rfl; (with_reducible repeat (first | refine blk_drewN ?_ _ | refine blk_drew ?_ | refine blk_alloc ?_ _)); refine blk_put (cs := #[.string ((rd_T28 l0 x8_1).f0.f0), .string (⟨#[]⟩ : ByteArray), .string (⟨#[]⟩ : ByteArray), .string (⟨#[]⟩ : ByteArray), .int .i64 0, .int .i64 0]) ?_ 1 _ rfl; (with_reducible repeat (first | refine blk_drewN ?_ _ | refine blk_drew ?_ | refine blk_alloc ?_ _)); refine blk_put (cs := #[.string (⟨#[]⟩ : ByteArray), .string (⟨#[]⟩ : ByteArray), .string (⟨#[]⟩ : ByteArray), .string (⟨#[]⟩ : ByteArray), .int .i64 0, .int .i64 0]) ?_ 0 _ rfl; (with_reducible repeat (first | refine blk_drewN ?_ _ | refine blk_drew ?_ | refine blk_alloc ?_ _)); exact BK234.out)) : gb234 ≠ gb235)); have n6_ := Aside0.mk ((by rw [hg]; exact Nat.ne_of_gt (blk_lt (g := gb234) (o := .cells #[.string ((rd_T28 l0 x8_1).f0.f0), .string ((rd_T28 l0 x8_1).f0.f1), .string ((rd_T28 l0 x8_1).f0.f2), .string ((rd_T28 l0 x8_1).f0.f3), .int .i64 ((rd_T28 l0 x8_1).f0.f4), .int .i64 ((rd_T28 l0 x8_1).f1)] 28 (0, 0)) (by (with_reducible repeat (first | refine blk_drewN ?_ _ | refine blk_drew ?_ | refine blk_alloc ?_ _)); refine blk_put (cs := #[.string ((rd_T28 l0 x8_1).f0.f0), .string ((rd_T28 l0 x8_1).f0.f1), .string ((rd_T28 l0 x8_1).f0.f2), .string ((rd_T28 l0 x8_1).f0.f3), .int .i64 ((rd_T28 l0 x8_1).f0.f4), .int .i64 0]) ?_ 5 _ rfl; (with_reducible repeat (first | refine blk_drewN ?_ _ | refine blk_drew ?_ | refine blk_alloc ?_ _)); refine blk_put (cs := #[.string ((rd_T28 l0 x8_1).f0.f0), .string ((rd_T28 l0 x8_1).f0.f1), .string ((rd_T28 l0 x8_1).f0.f2), .string ((rd_T28 l0 x8_1).f0.f3), .int .i64 0, .int .i64 0]) ?_ 4 _ rfl; (with_reducible repeat (first | refine blk_drewN ?_ _ | refine blk_drew ?_ | refine blk_alloc ?_ _)); refine blk_put (cs := #[.string ((rd_T28 l0 x8_1).f0.f0), .string ((rd_T28 l0 x8_1).f0.f1), .string ((rd_T28 l0 x8_1).f0.f2), .string (⟨#[]⟩ : ByteArray), .int .i64 0, .int .i64 0]) ?_ 3 _ rfl; (with_reducible repeat (first | refine blk_drewN ?_ _ | refine blk_drew ?_ | refine blk_alloc ?_ _)); refine blk_put (cs := #[.string ((rd_T28 l0 x8_1).f0.f0), .string ((rd_T28 l0 x8_1).f0.f1), .string (⟨#[]⟩ : ByteArray), .string (⟨#[]⟩ : ByteArray), .int .i64 0, .int .i64 0]) ?_ 2 _ rfl; (with_reducible repeat (first | refine blk_drewN ?_ _ | refine blk_drew ?_ | refine blk_alloc ?_ _)); refine blk_put (cs := #[.string ((rd_T28 l0 x8_1).f0.f0), .string (⟨#[]⟩ : ByteArray), .string (⟨#[]⟩ : ByteArray), .string (⟨#[]⟩ : ByteArray), .int .i64 0, .int .i64 0]) ?_ 1 _ rfl; (with_reducible repeat (first | refine blk_drewN ?_ _ | refine blk_drew ?_ | refine blk_alloc ?_ _)); refine blk_put (cs := #[.string (⟨#[]⟩ : ByteArray), .string (⟨#[]⟩ : ByteArray), .string (⟨#[]⟩ : ByteArray), .string (⟨#[]⟩ : ByteArray), .int .i64 0, .int .i64 0]) ?_ 0 _ rfl; (with_reducible repeat (first | refine blk_drewN ?_ _ | refine blk_drew ?_ | refine blk_alloc ?_ _)); exact BK234.out)) : gb235 ≠ gb234)); clear BK234; clear HB; have BK234 := n0_; have HB := n1_; have BK235 := n2_; have GW235 := n3_; have GE235 := n4_; have NB234_235 := n5_; have NB235_234 := n6_; clear n0_ n1_ n2_ n3_ n4_ n5_ n6_; clear hb hbox hg; have hnb9 := NB235_234.out; have hnc9 := NB234_235.out; have hcz10_0 : w8.cell? ⟨gb235, 0, none⟩ = some (.string (⟨#[]⟩ : ByteArray)) := (blk_cell BK235.out 0).trans rfl; have hcz10_1 : w8.cell? ⟨gb235, 1, none⟩ = some (.string (⟨#[]⟩ : ByteArray)) := (blk_cell BK235.out 1).trans rfl; have hcz10_2 : w8.cell? ⟨gb235, 2, none⟩ = some (.string (⟨#[]⟩ : ByteArray)) := (blk_cell BK235.out 2).trans rfl; have hcz10_3 : w8.cell? ⟨gb235, 3, none⟩ = some (.string (⟨#[]⟩ : ByteArray)) := (blk_cell BK235.out 3).trans rfl; have hcz10_4 : w8.cell? ⟨gb235, 4, none⟩ = some (.int .i64 0) := (blk_cell BK235.out 4).trans rfl; have hfz10_0 := blk_frozen BK235.out 0; have hfz10_1 := blk_frozen BK235.out 1; have hfz10_2 := blk_frozen BK235.out 2; have hfz10_3 := blk_frozen BK235.out 3; have hfz10_4 := blk_frozen BK235.out 4))
       go_ret
       exact ⟨re_, by repeat (first | (with_reducible first | exact HB.out | apply below_alloc | apply pw_below_drewN | apply below_drew1 | refine below_set ?_ GE234.out | refine below_set ?_ GE235.out) | exact HB.out)⟩
      ·rw [if_neg c5] at H
       have c5b0 : decide (40 < (((rd_T28 l0 x8_1).f0.f0).size : Int)) = false := decide_eq_false c5
       have c5b1 : decide (40 < ((rd_T28 l0 x8_1).f0.f0).size) = false := decide_eq_false (by omega)
       clear c5
       by_cases c11 : (((rd_T28 l0 x8_1).f0.f1).size : Int) > 40
       ·rw [if_pos c11] at H
        have c11b0 : decide (40 < (((rd_T28 l0 x8_1).f0.f1).size : Int)) = true := decide_eq_true c11
        have c11b1 : decide (40 < ((rd_T28 l0 x8_1).f0.f1).size) = true := decide_eq_true (by omega)
        clear c11
        obtain rfl := Option.some.inj H
        have p233 : 0 ≤ (x8_1 : Int) := of_decide_eq_true as_
        have q233 : x8_1 < (l0.length : Int) := of_decide_eq_true as_
        obtain ⟨ad233, e233, hx233_0, hx233_1, hx233_2, hx233_3, hx233_4, hx233_5⟩ := at_T28 HR0.out x8_1 p233 q233
        cases e233
        replace hx233_0 := cb HB hx233_0
        replace hx233_1 := cb HB hx233_1
        replace hx233_2 := cb HB hx233_2
        replace hx233_3 := cb HB hx233_3
        replace hx233_4 := cb HB hx233_4
        replace hx233_5 := cb HB hx233_5
        replace p233 := eq_true p233
        replace q233 := eq_true q233
        go_wp2_with (first | ((with_reducible refine gate_dst (N := 4) rfl ?_); (try (refine gate_guard (by rfl) ?_; dsimp only)); refine box_event ?hg (N := 4) ?hd (cs := #[.string (⟨#[]⟩ : ByteArray), .string (⟨#[]⟩ : ByteArray), .string (⟨#[]⟩ : ByteArray), .string (⟨#[]⟩ : ByteArray), .int .i64 0, .int .i64 0]) (t := 28) ?hr ?_; (case hd => rfl); (case hg => rfl); (case hr => first | (go_simp; done) | (go_simp; rfl)); intro gb234 hg w12 hbox hb; have n0_ := Aside0.mk (below_step bw hb); have n1_ := Aside0.mk (hbox); have n2_ := Aside0.mk ((by rw [hg]; exact (below_size bw) : w.heap.size ≤ gb234)); have n3_ := Aside0.mk ((by rw [hg]; exact (below_size bw) : w.heap.size ≤ gb234)); clear HB; have HB := n0_; have BK234 := n1_; have GW234 := n2_; have GE234 := n3_; clear n0_ n1_ n2_ n3_; clear hb hbox hg; have hcz13_0 : w12.cell? ⟨gb234, 0, none⟩ = some (.string (⟨#[]⟩ : ByteArray)) := (blk_cell BK234.out 0).trans rfl; have hcz13_1 : w12.cell? ⟨gb234, 1, none⟩ = some (.string (⟨#[]⟩ : ByteArray)) := (blk_cell BK234.out 1).trans rfl; have hcz13_2 : w12.cell? ⟨gb234, 2, none⟩ = some (.string (⟨#[]⟩ : ByteArray)) := (blk_cell BK234.out 2).trans rfl; have hcz13_3 : w12.cell? ⟨gb234, 3, none⟩ = some (.string (⟨#[]⟩ : ByteArray)) := (blk_cell BK234.out 3).trans rfl; have hcz13_4 : w12.cell? ⟨gb234, 4, none⟩ = some (.int .i64 0) := (blk_cell BK234.out 4).trans rfl; have hcz13_5 : w12.cell? ⟨gb234, 5, none⟩ = some (.int .i64 0) := (blk_cell BK234.out 5).trans rfl; have hfz13_0 := blk_frozen BK234.out 0; have hfz13_1 := blk_frozen BK234.out 1; have hfz13_2 := blk_frozen BK234.out 2; have hfz13_3 := blk_frozen BK234.out 3; have hfz13_4 := blk_frozen BK234.out 4; have hfz13_5 := blk_frozen BK234.out 5) | ((with_reducible refine gate_dst (N := 5) rfl ?_); (try (refine gate_guard (by rfl) ?_; dsimp only)); refine box_event ?hg (N := 5) ?hd (cs := #[.string (⟨#[]⟩ : ByteArray), .string (⟨#[]⟩ : ByteArray), .string (⟨#[]⟩ : ByteArray), .string (⟨#[]⟩ : ByteArray), .int .i64 0]) (t := 24) ?hr ?_; (case hd => rfl); (case hg => rfl); (case hr => first | (go_simp; done) | (go_simp; rfl)); intro gb235 hg w14 hbox hb; have n0_ := Aside0.mk (blk_below (g := gb234) (o := .cells #[.string ((rd_T28 l0 x8_1).f0.f0), .string ((rd_T28 l0 x8_1).f0.f1), .string ((rd_T28 l0 x8_1).f0.f2), .string ((rd_T28 l0 x8_1).f0.f3), .int .i64 ((rd_T28 l0 x8_1).f0.f4), .int .i64 ((rd_T28 l0 x8_1).f1)] 28 (0, 0)) (by (with_reducible repeat (first | refine blk_drewN ?_ _ | refine blk_drew ?_ | refine blk_alloc ?_ _)); refine blk_put (cs := #[.string ((rd_T28 l0 x8_1).f0.f0), .string ((rd_T28 l0 x8_1).f0.f1), .string ((rd_T28 l0 x8_1).f0.f2), .string ((rd_T28 l0 x8_1).f0.f3), .int .i64 ((rd_T28 l0 x8_1).f0.f4), .int .i64 0]) ?_ 5 _ rfl; (with_reducible repeat (first | refine blk_drewN ?_ _ | refine blk_drew ?_ | refine blk_alloc ?_ _)); refine blk_put (cs := #[.string ((rd_T28 l0 x8_1).f0.f0), .string ((rd_T28 l0 x8_1).f0.f1), .string ((rd_T28 l0 x8_1).f0.f2), .string ((rd_T28 l0 x8_1).f0.f3), .int .i64 0, .int .i64 0]) ?_ 4 _ rfl; (with_reducible repeat (first | refine blk_drewN ?_ _ | refine blk_drew ?_ | refine blk_alloc ?_ _)); refine blk_put (cs := #[.string ((rd_T28 l0 x8_1).f0.f0), .string ((rd_T28 l0 x8_1).f0.f1), .string ((rd_T28 l0 x8_1).f0.f2), .string (⟨#[]⟩ : ByteArray), .int .i64 0, .int .i64 0]) ?_ 3 _ rfl; (with_reducible repeat (first | refine blk_drewN ?_ _ | refine blk_drew ?_ | refine blk_alloc ?_ _)); refine blk_put (cs := #[.string ((rd_T28 l0 x8_1).f0.f0), .string ((rd_T28 l0 x8_1).f0.f1), .string (⟨#[]⟩ : ByteArray), .string (⟨#[]⟩ : ByteArray), .int .i64 0, .int .i64 0]) ?_ 2 _ rfl; (with_reducible repeat (first | refine blk_drewN ?_ _ | refine blk_drew ?_ | refine blk_alloc ?_ _)); refine blk_put (cs := #[.string ((rd_T28 l0 x8_1).f0.f0), .string (⟨#[]⟩ : ByteArray), .string (⟨#[]⟩ : ByteArray), .string (⟨#[]⟩ : ByteArray), .int .i64 0, .int .i64 0]) ?_ 1 _ rfl; (with_reducible repeat (first | refine blk_drewN ?_ _ | refine blk_drew ?_ | refine blk_alloc ?_ _)); refine blk_put (cs := #[.string (⟨#[]⟩ : ByteArray), .string (⟨#[]⟩ : ByteArray), .string (⟨#[]⟩ : ByteArray), .string (⟨#[]⟩ : ByteArray), .int .i64 0, .int .i64 0]) ?_ 0 _ rfl; (with_reducible repeat (first | refine blk_drewN ?_ _ | refine blk_drew ?_ | refine blk_alloc ?_ _)); exact BK234.out) hb); have n1_ := Aside0.mk (below_step (by repeat (first | (with_reducible first | exact HB.out | apply below_alloc | apply pw_below_drewN | apply below_drew1 | refine below_set ?_ GE234.out) | exact HB.out)) hb); have n2_ := Aside0.mk (hbox); have n3_ := Aside0.mk ((by rw [hg]; exact (below_size (by repeat (first | (with_reducible first | exact HB.out | apply below_alloc | apply pw_below_drewN | apply below_drew1 | refine below_set ?_ GE234.out) | exact HB.out))) : w.heap.size ≤ gb235)); have n4_ := Aside0.mk ((by rw [hg]; exact (below_size (by repeat (first | (with_reducible first | exact HB.out | apply below_alloc | apply pw_below_drewN | apply below_drew1 | refine below_set ?_ GE234.out) | exact HB.out))) : w.heap.size ≤ gb235)); have n5_ := Aside0.mk ((by rw [hg]; exact Nat.ne_of_lt (blk_lt (g := gb234) (o := .cells #[.string ((rd_T28 l0 x8_1).f0.f0), .string ((rd_T28 l0 x8_1).f0.f1), .string ((rd_T28 l0 x8_1).f0.f2), .string ((rd_T28 l0 x8_1).f0.f3), .int .i64 ((rd_T28 l0 x8_1).f0.f4), .int .i64 ((rd_T28 l0 x8_1).f1)] 28 (0, 0)) (by (with_reducible repeat (first | refine blk_drewN ?_ _ | refine blk_drew ?_ | refine blk_alloc ?_ _)); refine blk_put (cs := #[.string ((rd_T28 l0 x8_1).f0.f0), .string ((rd_T28 l0 x8_1).f0.f1), .string ((rd_T28 l0 x8_1).f0.f2), .string ((rd_T28 l0 x8_1).f0.f3), .int .i64 ((rd_T28 l0 x8_1).f0.f4), .int .i64 0]) ?_ 5 _ rfl; (with_reducible repeat (first | refine blk_drewN ?_ _ | refine blk_drew ?_ | refine blk_alloc ?_ _)); refine blk_put (cs := #[.string ((rd_T28 l0 x8_1).f0.f0), .string ((rd_T28 l0 x8_1).f0.f1), .string ((rd_T28 l0 x8_1).f0.f2), .string ((rd_T28 l0 x8_1).f0.f3), .int .i64 0, .int .i64 0]) ?_ 4 _ rfl; (with_reducible repeat (first | refine blk_drewN ?_ _ | refine blk_drew ?_ | refine blk_alloc ?_ _)); refine blk_put (cs := #[.string ((rd_T28 l0 x8_1).f0.f0), .string ((rd_T28 l0 x8_1).f0.f1), .string ((rd_T28 l0 x8_1).f0.f2), .string (⟨#[]⟩ : ByteArray), .int .i64 0, .int .i64 0]) ?_ 3 _ rfl; (with_reducible repeat (first | refine blk_drewN ?_ _ | refine blk_drew ?_ | refine blk_alloc ?_ _)); refine blk_put (cs := #[.string ((rd_T28 l0 x8_1).f0.f0), .string ((rd_T28 l0 x8_1).f0.f1), .string (⟨#[]⟩ : ByteArray), .string (⟨#[]⟩ : ByteArray), .int .i64 0, .int .i64 0]) ?_ 2 _ rfl; (with_reducible repeat (first | refine blk_drewN ?_ _ | refine blk_drew ?_ | refine blk_alloc ?_ _)); refine blk_put (cs := #[.string ((rd_T28 l0 x8_1).f0.f0), .string (⟨#[]⟩ : ByteArray), .string (⟨#[]⟩ : ByteArray), .string (⟨#[]⟩ : ByteArray), .int .i64 0, .int .i64 0]) ?_ 1 _ rfl; (with_reducible repeat (first | refine blk_drewN ?_ _ | refine blk_drew ?_ | refine blk_alloc ?_ _)); refine blk_put (cs := #[.string (⟨#[]⟩ : ByteArray), .string (⟨#[]⟩ : ByteArray), .string (⟨#[]⟩ : ByteArray), .string (⟨#[]⟩ : ByteArray), .int .i64 0, .int .i64 0]) ?_ 0 _ rfl; (with_reducible repeat (first | refine blk_drewN ?_ _ | refine blk_drew ?_ | refine blk_alloc ?_ _)); exact BK234.out)) : gb234 ≠ gb235)); have n6_ := Aside0.mk ((by rw [hg]; exact Nat.ne_of_gt (blk_lt (g := gb234) (o := .cells #[.string ((rd_T28 l0 x8_1).f0.f0), .string ((rd_T28 l0 x8_1).f0.f1), .string ((rd_T28 l0 x8_1).f0.f2), .string ((rd_T28 l0 x8_1).f0.f3), .int .i64 ((rd_T28 l0 x8_1).f0.f4), .int .i64 ((rd_T28 l0 x8_1).f1)] 28 (0, 0)) (by (with_reducible repeat (first | refine blk_drewN ?_ _ | refine blk_drew ?_ | refine blk_alloc ?_ _)); refine blk_put (cs := #[.string ((rd_T28 l0 x8_1).f0.f0), .string ((rd_T28 l0 x8_1).f0.f1), .string ((rd_T28 l0 x8_1).f0.f2), .string ((rd_T28 l0 x8_1).f0.f3), .int .i64 ((rd_T28 l0 x8_1).f0.f4), .int .i64 0]) ?_ 5 _ rfl; (with_reducible repeat (first | refine blk_drewN ?_ _ | refine blk_drew ?_ | refine blk_alloc ?_ _)); refine blk_put (cs := #[.string ((rd_T28 l0 x8_1).f0.f0), .string ((rd_T28 l0 x8_1).f0.f1), .string ((rd_T28 l0 x8_1).f0.f2), .string ((rd_T28 l0 x8_1).f0.f3), .int .i64 0, .int .i64 0]) ?_ 4 _ rfl; (with_reducible repeat (first | refine blk_drewN ?_ _ | refine blk_drew ?_ | refine blk_alloc ?_ _)); refine blk_put (cs := #[.string ((rd_T28 l0 x8_1).f0.f0), .string ((rd_T28 l0 x8_1).f0.f1), .string ((rd_T28 l0 x8_1).f0.f2), .string (⟨#[]⟩ : ByteArray), .int .i64 0, .int .i64 0]) ?_ 3 _ rfl; (with_reducible repeat (first | refine blk_drewN ?_ _ | refine blk_drew ?_ | refine blk_alloc ?_ _)); refine blk_put (cs := #[.string ((rd_T28 l0 x8_1).f0.f0), .string ((rd_T28 l0 x8_1).f0.f1), .string (⟨#[]⟩ : ByteArray), .string (⟨#[]⟩ : ByteArray), .int .i64 0, .int .i64 0]) ?_ 2 _ rfl; (with_reducible repeat (first | refine blk_drewN ?_ _ | refine blk_drew ?_ | refine blk_alloc ?_ _)); refine blk_put (cs := #[.string ((rd_T28 l0 x8_1).f0.f0), .string (⟨#[]⟩ : ByteArray), .string (⟨#[]⟩ : ByteArray), .string (⟨#[]⟩ : ByteArray), .int .i64 0, .int .i64 0]) ?_ 1 _ rfl; (with_reducible repeat (first | refine blk_drewN ?_ _ | refine blk_drew ?_ | refine blk_alloc ?_ _)); refine blk_put (cs := #[.string (⟨#[]⟩ : ByteArray), .string (⟨#[]⟩ : ByteArray), .string (⟨#[]⟩ : ByteArray), .string (⟨#[]⟩ : ByteArray), .int .i64 0, .int .i64 0]) ?_ 0 _ rfl; (with_reducible repeat (first | refine blk_drewN ?_ _ | refine blk_drew ?_ | refine blk_alloc ?_ _)); exact BK234.out)) : gb235 ≠ gb234)); clear BK234; clear HB; have BK234 := n0_; have HB := n1_; have BK235 := n2_; have GW235 := n3_; have GE235 := n4_; have NB234_235 := n5_; have NB235_234 := n6_; clear n0_ n1_ n2_ n3_ n4_ n5_ n6_; clear hb hbox hg; have hnb15 := NB235_234.out; have hnc15 := NB234_235.out; have hcz16_0 : w14.cell? ⟨gb235, 0, none⟩ = some (.string (⟨#[]⟩ : ByteArray)) := (blk_cell BK235.out 0).trans rfl; have hcz16_1 : w14.cell? ⟨gb235, 1, none⟩ = some (.string (⟨#[]⟩ : ByteArray)) := (blk_cell BK235.out 1).trans rfl; have hcz16_2 : w14.cell? ⟨gb235, 2, none⟩ = some (.string (⟨#[]⟩ : ByteArray)) := (blk_cell BK235.out 2).trans rfl; have hcz16_3 : w14.cell? ⟨gb235, 3, none⟩ = some (.string (⟨#[]⟩ : ByteArray)) := (blk_cell BK235.out 3).trans rfl; have hcz16_4 : w14.cell? ⟨gb235, 4, none⟩ = some (.int .i64 0) := (blk_cell BK235.out 4).trans rfl; have hfz16_0 := blk_frozen BK235.out 0; have hfz16_1 := blk_frozen BK235.out 1; have hfz16_2 := blk_frozen BK235.out 2; have hfz16_3 := blk_frozen BK235.out 3; have hfz16_4 := blk_frozen BK235.out 4))
        go_ret
        exact ⟨re_, by repeat (first | (with_reducible first | exact HB.out | apply below_alloc | apply pw_below_drewN | apply below_drew1 | refine below_set ?_ GE234.out | refine below_set ?_ GE235.out) | exact HB.out)⟩
       ·rw [if_neg c11] at H
        have c11b0 : decide (40 < (((rd_T28 l0 x8_1).f0.f1).size : Int)) = false := decide_eq_false c11
        have c11b1 : decide (40 < ((rd_T28 l0 x8_1).f0.f1).size) = false := decide_eq_false (by omega)
        clear c11
        by_cases c17 : (((rd_T28 l0 x8_1).f0.f2).size : Int) > 40
        ·rw [if_pos c17] at H
         have c17b0 : decide (40 < (((rd_T28 l0 x8_1).f0.f2).size : Int)) = true := decide_eq_true c17
         have c17b1 : decide (40 < ((rd_T28 l0 x8_1).f0.f2).size) = true := decide_eq_true (by omega)
         clear c17
         obtain rfl := Option.some.inj H
         have p233 : 0 ≤ (x8_1 : Int) := of_decide_eq_true as_
         have q233 : x8_1 < (l0.length : Int) := of_decide_eq_true as_
         obtain ⟨ad233, e233, hx233_0, hx233_1, hx233_2, hx233_3, hx233_4, hx233_5⟩ := at_T28 HR0.out x8_1 p233 q233
         cases e233
         replace hx233_0 := cb HB hx233_0
         replace hx233_1 := cb HB hx233_1
         replace hx233_2 := cb HB hx233_2
         replace hx233_3 := cb HB hx233_3
         replace hx233_4 := cb HB hx233_4
         replace hx233_5 := cb HB hx233_5
         replace p233 := eq_true p233
         replace q233 := eq_true q233
         go_wp2_with (first | ((with_reducible refine gate_dst (N := 4) rfl ?_); (try (refine gate_guard (by rfl) ?_; dsimp only)); refine box_event ?hg (N := 4) ?hd (cs := #[.string (⟨#[]⟩ : ByteArray), .string (⟨#[]⟩ : ByteArray), .string (⟨#[]⟩ : ByteArray), .string (⟨#[]⟩ : ByteArray), .int .i64 0, .int .i64 0]) (t := 28) ?hr ?_; (case hd => rfl); (case hg => rfl); (case hr => first | (go_simp; done) | (go_simp; rfl)); intro gb234 hg w18 hbox hb; have n0_ := Aside0.mk (below_step bw hb); have n1_ := Aside0.mk (hbox); have n2_ := Aside0.mk ((by rw [hg]; exact (below_size bw) : w.heap.size ≤ gb234)); have n3_ := Aside0.mk ((by rw [hg]; exact (below_size bw) : w.heap.size ≤ gb234)); clear HB; have HB := n0_; have BK234 := n1_; have GW234 := n2_; have GE234 := n3_; clear n0_ n1_ n2_ n3_; clear hb hbox hg; have hcz19_0 : w18.cell? ⟨gb234, 0, none⟩ = some (.string (⟨#[]⟩ : ByteArray)) := (blk_cell BK234.out 0).trans rfl; have hcz19_1 : w18.cell? ⟨gb234, 1, none⟩ = some (.string (⟨#[]⟩ : ByteArray)) := (blk_cell BK234.out 1).trans rfl; have hcz19_2 : w18.cell? ⟨gb234, 2, none⟩ = some (.string (⟨#[]⟩ : ByteArray)) := (blk_cell BK234.out 2).trans rfl; have hcz19_3 : w18.cell? ⟨gb234, 3, none⟩ = some (.string (⟨#[]⟩ : ByteArray)) := (blk_cell BK234.out 3).trans rfl; have hcz19_4 : w18.cell? ⟨gb234, 4, none⟩ = some (.int .i64 0) := (blk_cell BK234.out 4).trans rfl; have hcz19_5 : w18.cell? ⟨gb234, 5, none⟩ = some (.int .i64 0) := (blk_cell BK234.out 5).trans rfl; have hfz19_0 := blk_frozen BK234.out 0; have hfz19_1 := blk_frozen BK234.out 1; have hfz19_2 := blk_frozen BK234.out 2; have hfz19_3 := blk_frozen BK234.out 3; have hfz19_4 := blk_frozen BK234.out 4; have hfz19_5 := blk_frozen BK234.out 5) | ((with_reducible refine gate_dst (N := 5) rfl ?_); (try (refine gate_guard (by rfl) ?_; dsimp only)); refine box_event ?hg (N := 5) ?hd (cs := #[.string (⟨#[]⟩ : ByteArray), .string (⟨#[]⟩ : ByteArray), .string (⟨#[]⟩ : ByteArray), .string (⟨#[]⟩ : ByteArray), .int .i64 0]) (t := 24) ?hr ?_; (case hd => rfl); (case hg => rfl); (case hr => first | (go_simp; done) | (go_simp; rfl)); intro gb235 hg w20 hbox hb; have n0_ := Aside0.mk (blk_below (g := gb234) (o := .cells #[.string ((rd_T28 l0 x8_1).f0.f0), .string ((rd_T28 l0 x8_1).f0.f1), .string ((rd_T28 l0 x8_1).f0.f2), .string ((rd_T28 l0 x8_1).f0.f3), .int .i64 ((rd_T28 l0 x8_1).f0.f4), .int .i64 ((rd_T28 l0 x8_1).f1)] 28 (0, 0)) (by (with_reducible repeat (first | refine blk_drewN ?_ _ | refine blk_drew ?_ | refine blk_alloc ?_ _)); refine blk_put (cs := #[.string ((rd_T28 l0 x8_1).f0.f0), .string ((rd_T28 l0 x8_1).f0.f1), .string ((rd_T28 l0 x8_1).f0.f2), .string ((rd_T28 l0 x8_1).f0.f3), .int .i64 ((rd_T28 l0 x8_1).f0.f4), .int .i64 0]) ?_ 5 _ rfl; (with_reducible repeat (first | refine blk_drewN ?_ _ | refine blk_drew ?_ | refine blk_alloc ?_ _)); refine blk_put (cs := #[.string ((rd_T28 l0 x8_1).f0.f0), .string ((rd_T28 l0 x8_1).f0.f1), .string ((rd_T28 l0 x8_1).f0.f2), .string ((rd_T28 l0 x8_1).f0.f3), .int .i64 0, .int .i64 0]) ?_ 4 _ rfl; (with_reducible repeat (first | refine blk_drewN ?_ _ | refine blk_drew ?_ | refine blk_alloc ?_ _)); refine blk_put (cs := #[.string ((rd_T28 l0 x8_1).f0.f0), .string ((rd_T28 l0 x8_1).f0.f1), .string ((rd_T28 l0 x8_1).f0.f2), .string (⟨#[]⟩ : ByteArray), .int .i64 0, .int .i64 0]) ?_ 3 _ rfl; (with_reducible repeat (first | refine blk_drewN ?_ _ | refine blk_drew ?_ | refine blk_alloc ?_ _)); refine blk_put (cs := #[.string ((rd_T28 l0 x8_1).f0.f0), .string ((rd_T28 l0 x8_1).f0.f1), .string (⟨#[]⟩ : ByteArray), .string (⟨#[]⟩ : ByteArray), .int .i64 0, .int .i64 0]) ?_ 2 _ rfl; (with_reducible repeat (first | refine blk_drewN ?_ _ | refine blk_drew ?_ | refine blk_alloc ?_ _)); refine blk_put (cs := #[.string ((rd_T28 l0 x8_1).f0.f0), .string (⟨#[]⟩ : ByteArray), .string (⟨#[]⟩ : ByteArray), .string (⟨#[]⟩ : ByteArray), .int .i64 0, .int .i64 0]) ?_ 1 _ rfl; (with_reducible repeat (first | refine blk_drewN ?_ _ | refine blk_drew ?_ | refine blk_alloc ?_ _)); refine blk_put (cs := #[.string (⟨#[]⟩ : ByteArray), .string (⟨#[]⟩ : ByteArray), .string (⟨#[]⟩ : ByteArray), .string (⟨#[]⟩ : ByteArray), .int .i64 0, .int .i64 0]) ?_ 0 _ rfl; (with_reducible repeat (first | refine blk_drewN ?_ _ | refine blk_drew ?_ | refine blk_alloc ?_ _)); exact BK234.out) hb); have n1_ := Aside0.mk (below_step (by repeat (first | (with_reducible first | exact HB.out | apply below_alloc | apply pw_below_drewN | apply below_drew1 | refine below_set ?_ GE234.out) | exact HB.out)) hb); have n2_ := Aside0.mk (hbox); have n3_ := Aside0.mk ((by rw [hg]; exact (below_size (by repeat (first | (with_reducible first | exact HB.out | apply below_alloc | apply pw_below_drewN | apply below_drew1 | refine below_set ?_ GE234.out) | exact HB.out))) : w.heap.size ≤ gb235)); have n4_ := Aside0.mk ((by rw [hg]; exact (below_size (by repeat (first | (with_reducible first | exact HB.out | apply below_alloc | apply pw_below_drewN | apply below_drew1 | refine below_set ?_ GE234.out) | exact HB.out))) : w.heap.size ≤ gb235)); have n5_ := Aside0.mk ((by rw [hg]; exact Nat.ne_of_lt (blk_lt (g := gb234) (o := .cells #[.string ((rd_T28 l0 x8_1).f0.f0), .string ((rd_T28 l0 x8_1).f0.f1), .string ((rd_T28 l0 x8_1).f0.f2), .string ((rd_T28 l0 x8_1).f0.f3), .int .i64 ((rd_T28 l0 x8_1).f0.f4), .int .i64 ((rd_T28 l0 x8_1).f1)] 28 (0, 0)) (by (with_reducible repeat (first | refine blk_drewN ?_ _ | refine blk_drew ?_ | refine blk_alloc ?_ _)); refine blk_put (cs := #[.string ((rd_T28 l0 x8_1).f0.f0), .string ((rd_T28 l0 x8_1).f0.f1), .string ((rd_T28 l0 x8_1).f0.f2), .string ((rd_T28 l0 x8_1).f0.f3), .int .i64 ((rd_T28 l0 x8_1).f0.f4), .int .i64 0]) ?_ 5 _ rfl; (with_reducible repeat (first | refine blk_drewN ?_ _ | refine blk_drew ?_ | refine blk_alloc ?_ _)); refine blk_put (cs := #[.string ((rd_T28 l0 x8_1).f0.f0), .string ((rd_T28 l0 x8_1).f0.f1), .string ((rd_T28 l0 x8_1).f0.f2), .string ((rd_T28 l0 x8_1).f0.f3), .int .i64 0, .int .i64 0]) ?_ 4 _ rfl; (with_reducible repeat (first | refine blk_drewN ?_ _ | refine blk_drew ?_ | refine blk_alloc ?_ _)); refine blk_put (cs := #[.string ((rd_T28 l0 x8_1).f0.f0), .string ((rd_T28 l0 x8_1).f0.f1), .string ((rd_T28 l0 x8_1).f0.f2), .string (⟨#[]⟩ : ByteArray), .int .i64 0, .int .i64 0]) ?_ 3 _ rfl; (with_reducible repeat (first | refine blk_drewN ?_ _ | refine blk_drew ?_ | refine blk_alloc ?_ _)); refine blk_put (cs := #[.string ((rd_T28 l0 x8_1).f0.f0), .string ((rd_T28 l0 x8_1).f0.f1), .string (⟨#[]⟩ : ByteArray), .string (⟨#[]⟩ : ByteArray), .int .i64 0, .int .i64 0]) ?_ 2 _ rfl; (with_reducible repeat (first | refine blk_drewN ?_ _ | refine blk_drew ?_ | refine blk_alloc ?_ _)); refine blk_put (cs := #[.string ((rd_T28 l0 x8_1).f0.f0), .string (⟨#[]⟩ : ByteArray), .string (⟨#[]⟩ : ByteArray), .string (⟨#[]⟩ : ByteArray), .int .i64 0, .int .i64 0]) ?_ 1 _ rfl; (with_reducible repeat (first | refine blk_drewN ?_ _ | refine blk_drew ?_ | refine blk_alloc ?_ _)); refine blk_put (cs := #[.string (⟨#[]⟩ : ByteArray), .string (⟨#[]⟩ : ByteArray), .string (⟨#[]⟩ : ByteArray), .string (⟨#[]⟩ : ByteArray), .int .i64 0, .int .i64 0]) ?_ 0 _ rfl; (with_reducible repeat (first | refine blk_drewN ?_ _ | refine blk_drew ?_ | refine blk_alloc ?_ _)); exact BK234.out)) : gb234 ≠ gb235)); have n6_ := Aside0.mk ((by rw [hg]; exact Nat.ne_of_gt (blk_lt (g := gb234) (o := .cells #[.string ((rd_T28 l0 x8_1).f0.f0), .string ((rd_T28 l0 x8_1).f0.f1), .string ((rd_T28 l0 x8_1).f0.f2), .string ((rd_T28 l0 x8_1).f0.f3), .int .i64 ((rd_T28 l0 x8_1).f0.f4), .int .i64 ((rd_T28 l0 x8_1).f1)] 28 (0, 0)) (by (with_reducible repeat (first | refine blk_drewN ?_ _ | refine blk_drew ?_ | refine blk_alloc ?_ _)); refine blk_put (cs := #[.string ((rd_T28 l0 x8_1).f0.f0), .string ((rd_T28 l0 x8_1).f0.f1), .string ((rd_T28 l0 x8_1).f0.f2), .string ((rd_T28 l0 x8_1).f0.f3), .int .i64 ((rd_T28 l0 x8_1).f0.f4), .int .i64 0]) ?_ 5 _ rfl; (with_reducible repeat (first | refine blk_drewN ?_ _ | refine blk_drew ?_ | refine blk_alloc ?_ _)); refine blk_put (cs := #[.string ((rd_T28 l0 x8_1).f0.f0), .string ((rd_T28 l0 x8_1).f0.f1), .string ((rd_T28 l0 x8_1).f0.f2), .string ((rd_T28 l0 x8_1).f0.f3), .int .i64 0, .int .i64 0]) ?_ 4 _ rfl; (with_reducible repeat (first | refine blk_drewN ?_ _ | refine blk_drew ?_ | refine blk_alloc ?_ _)); refine blk_put (cs := #[.string ((rd_T28 l0 x8_1).f0.f0), .string ((rd_T28 l0 x8_1).f0.f1), .string ((rd_T28 l0 x8_1).f0.f2), .string (⟨#[]⟩ : ByteArray), .int .i64 0, .int .i64 0]) ?_ 3 _ rfl; (with_reducible repeat (first | refine blk_drewN ?_ _ | refine blk_drew ?_ | refine blk_alloc ?_ _)); refine blk_put (cs := #[.string ((rd_T28 l0 x8_1).f0.f0), .string ((rd_T28 l0 x8_1).f0.f1), .string (⟨#[]⟩ : ByteArray), .string (⟨#[]⟩ : ByteArray), .int .i64 0, .int .i64 0]) ?_ 2 _ rfl; (with_reducible repeat (first | refine blk_drewN ?_ _ | refine blk_drew ?_ | refine blk_alloc ?_ _)); refine blk_put (cs := #[.string ((rd_T28 l0 x8_1).f0.f0), .string (⟨#[]⟩ : ByteArray), .string (⟨#[]⟩ : ByteArray), .string (⟨#[]⟩ : ByteArray), .int .i64 0, .int .i64 0]) ?_ 1 _ rfl; (with_reducible repeat (first | refine blk_drewN ?_ _ | refine blk_drew ?_ | refine blk_alloc ?_ _)); refine blk_put (cs := #[.string (⟨#[]⟩ : ByteArray), .string (⟨#[]⟩ : ByteArray), .string (⟨#[]⟩ : ByteArray), .string (⟨#[]⟩ : ByteArray), .int .i64 0, .int .i64 0]) ?_ 0 _ rfl; (with_reducible repeat (first | refine blk_drewN ?_ _ | refine blk_drew ?_ | refine blk_alloc ?_ _)); exact BK234.out)) : gb235 ≠ gb234)); clear BK234; clear HB; have BK234 := n0_; have HB := n1_; have BK235 := n2_; have GW235 := n3_; have GE235 := n4_; have NB234_235 := n5_; have NB235_234 := n6_; clear n0_ n1_ n2_ n3_ n4_ n5_ n6_; clear hb hbox hg; have hnb21 := NB235_234.out; have hnc21 := NB234_235.out; have hcz22_0 : w20.cell? ⟨gb235, 0, none⟩ = some (.string (⟨#[]⟩ : ByteArray)) := (blk_cell BK235.out 0).trans rfl; have hcz22_1 : w20.cell? ⟨gb235, 1, none⟩ = some (.string (⟨#[]⟩ : ByteArray)) := (blk_cell BK235.out 1).trans rfl; have hcz22_2 : w20.cell? ⟨gb235, 2, none⟩ = some (.string (⟨#[]⟩ : ByteArray)) := (blk_cell BK235.out 2).trans rfl; have hcz22_3 : w20.cell? ⟨gb235, 3, none⟩ = some (.string (⟨#[]⟩ : ByteArray)) := (blk_cell BK235.out 3).trans rfl; have hcz22_4 : w20.cell? ⟨gb235, 4, none⟩ = some (.int .i64 0) := (blk_cell BK235.out 4).trans rfl; have hfz22_0 := blk_frozen BK235.out 0; have hfz22_1 := blk_frozen BK235.out 1; have hfz22_2 := blk_frozen BK235.out 2; have hfz22_3 := blk_frozen BK235.out 3; have hfz22_4 := blk_frozen BK235.out 4))
         go_ret
         exact ⟨re_, by repeat (first | (with_reducible first | exact HB.out | apply below_alloc | apply pw_below_drewN | apply below_drew1 | refine below_set ?_ GE234.out | refine below_set ?_ GE235.out) | exact HB.out)⟩
        ·rw [if_neg c17] at H
         have c17b0 : decide (40 < (((rd_T28 l0 x8_1).f0.f2).size : Int)) = false := decide_eq_false c17
         have c17b1 : decide (40 < ((rd_T28 l0 x8_1).f0.f2).size) = false := decide_eq_false (by omega)
         clear c17
         by_cases c23 : (((rd_T28 l0 x8_1).f0.f3).size : Int) > 40
         ·rw [if_pos c23] at H
          have c23b0 : decide (40 < (((rd_T28 l0 x8_1).f0.f3).size : Int)) = true := decide_eq_true c23
          have c23b1 : decide (40 < ((rd_T28 l0 x8_1).f0.f3).size) = true := decide_eq_true (by omega)
          clear c23
          obtain rfl := Option.some.inj H
          have p233 : 0 ≤ (x8_1 : Int) := of_decide_eq_true as_
          have q233 : x8_1 < (l0.length : Int) := of_decide_eq_true as_
          obtain ⟨ad233, e233, hx233_0, hx233_1, hx233_2, hx233_3, hx233_4, hx233_5⟩ := at_T28 HR0.out x8_1 p233 q233
          cases e233
          replace hx233_0 := cb HB hx233_0
          replace hx233_1 := cb HB hx233_1
          replace hx233_2 := cb HB hx233_2
          replace hx233_3 := cb HB hx233_3
          replace hx233_4 := cb HB hx233_4
          replace hx233_5 := cb HB hx233_5
          replace p233 := eq_true p233
          replace q233 := eq_true q233
          go_wp2_with (first | ((with_reducible refine gate_dst (N := 4) rfl ?_); (try (refine gate_guard (by rfl) ?_; dsimp only)); refine box_event ?hg (N := 4) ?hd (cs := #[.string (⟨#[]⟩ : ByteArray), .string (⟨#[]⟩ : ByteArray), .string (⟨#[]⟩ : ByteArray), .string (⟨#[]⟩ : ByteArray), .int .i64 0, .int .i64 0]) (t := 28) ?hr ?_; (case hd => rfl); (case hg => rfl); (case hr => first | (go_simp; done) | (go_simp; rfl)); intro gb234 hg w24 hbox hb; have n0_ := Aside0.mk (below_step bw hb); have n1_ := Aside0.mk (hbox); have n2_ := Aside0.mk ((by rw [hg]; exact (below_size bw) : w.heap.size ≤ gb234)); have n3_ := Aside0.mk ((by rw [hg]; exact (below_size bw) : w.heap.size ≤ gb234)); clear HB; have HB := n0_; have BK234 := n1_; have GW234 := n2_; have GE234 := n3_; clear n0_ n1_ n2_ n3_; clear hb hbox hg; have hcz25_0 : w24.cell? ⟨gb234, 0, none⟩ = some (.string (⟨#[]⟩ : ByteArray)) := (blk_cell BK234.out 0).trans rfl; have hcz25_1 : w24.cell? ⟨gb234, 1, none⟩ = some (.string (⟨#[]⟩ : ByteArray)) := (blk_cell BK234.out 1).trans rfl; have hcz25_2 : w24.cell? ⟨gb234, 2, none⟩ = some (.string (⟨#[]⟩ : ByteArray)) := (blk_cell BK234.out 2).trans rfl; have hcz25_3 : w24.cell? ⟨gb234, 3, none⟩ = some (.string (⟨#[]⟩ : ByteArray)) := (blk_cell BK234.out 3).trans rfl; have hcz25_4 : w24.cell? ⟨gb234, 4, none⟩ = some (.int .i64 0) := (blk_cell BK234.out 4).trans rfl; have hcz25_5 : w24.cell? ⟨gb234, 5, none⟩ = some (.int .i64 0) := (blk_cell BK234.out 5).trans rfl; have hfz25_0 := blk_frozen BK234.out 0; have hfz25_1 := blk_frozen BK234.out 1; have hfz25_2 := blk_frozen BK234.out 2; have hfz25_3 := blk_frozen BK234.out 3; have hfz25_4 := blk_frozen BK234.out 4; have hfz25_5 := blk_frozen BK234.out 5) | ((with_reducible refine gate_dst (N := 5) rfl ?_); (try (refine gate_guard (by rfl) ?_; dsimp only)); refine box_event ?hg (N := 5) ?hd (cs := #[.string (⟨#[]⟩ : ByteArray), .string (⟨#[]⟩ : ByteArray), .string (⟨#[]⟩ : ByteArray), .string (⟨#[]⟩ : ByteArray), .int .i64 0]) (t := 24) ?hr ?_; (case hd => rfl); (case hg => rfl); (case hr => first | (go_simp; done) | (go_simp; rfl)); intro gb235 hg w26 hbox hb; have n0_ := Aside0.mk (blk_below (g := gb234) (o := .cells #[.string ((rd_T28 l0 x8_1).f0.f0), .string ((rd_T28 l0 x8_1).f0.f1), .string ((rd_T28 l0 x8_1).f0.f2), .string ((rd_T28 l0 x8_1).f0.f3), .int .i64 ((rd_T28 l0 x8_1).f0.f4), .int .i64 ((rd_T28 l0 x8_1).f1)] 28 (0, 0)) (by (with_reducible repeat (first | refine blk_drewN ?_ _ | refine blk_drew ?_ | refine blk_alloc ?_ _)); refine blk_put (cs := #[.string ((rd_T28 l0 x8_1).f0.f0), .string ((rd_T28 l0 x8_1).f0.f1), .string ((rd_T28 l0 x8_1).f0.f2), .string ((rd_T28 l0 x8_1).f0.f3), .int .i64 ((rd_T28 l0 x8_1).f0.f4), .int .i64 0]) ?_ 5 _ rfl; (with_reducible repeat (first | refine blk_drewN ?_ _ | refine blk_drew ?_ | refine blk_alloc ?_ _)); refine blk_put (cs := #[.string ((rd_T28 l0 x8_1).f0.f0), .string ((rd_T28 l0 x8_1).f0.f1), .string ((rd_T28 l0 x8_1).f0.f2), .string ((rd_T28 l0 x8_1).f0.f3), .int .i64 0, .int .i64 0]) ?_ 4 _ rfl; (with_reducible repeat (first | refine blk_drewN ?_ _ | refine blk_drew ?_ | refine blk_alloc ?_ _)); refine blk_put (cs := #[.string ((rd_T28 l0 x8_1).f0.f0), .string ((rd_T28 l0 x8_1).f0.f1), .string ((rd_T28 l0 x8_1).f0.f2), .string (⟨#[]⟩ : ByteArray), .int .i64 0, .int .i64 0]) ?_ 3 _ rfl; (with_reducible repeat (first | refine blk_drewN ?_ _ | refine blk_drew ?_ | refine blk_alloc ?_ _)); refine blk_put (cs := #[.string ((rd_T28 l0 x8_1).f0.f0), .string ((rd_T28 l0 x8_1).f0.f1), .string (⟨#[]⟩ : ByteArray), .string (⟨#[]⟩ : ByteArray), .int .i64 0, .int .i64 0]) ?_ 2 _ rfl; (with_reducible repeat (first | refine blk_drewN ?_ _ | refine blk_drew ?_ | refine blk_alloc ?_ _)); refine blk_put (cs := #[.string ((rd_T28 l0 x8_1).f0.f0), .string (⟨#[]⟩ : ByteArray), .string (⟨#[]⟩ : ByteArray), .string (⟨#[]⟩ : ByteArray), .int .i64 0, .int .i64 0]) ?_ 1 _ rfl; (with_reducible repeat (first | refine blk_drewN ?_ _ | refine blk_drew ?_ | refine blk_alloc ?_ _)); refine blk_put (cs := #[.string (⟨#[]⟩ : ByteArray), .string (⟨#[]⟩ : ByteArray), .string (⟨#[]⟩ : ByteArray), .string (⟨#[]⟩ : ByteArray), .int .i64 0, .int .i64 0]) ?_ 0 _ rfl; (with_reducible repeat (first | refine blk_drewN ?_ _ | refine blk_drew ?_ | refine blk_alloc ?_ _)); exact BK234.out) hb); have n1_ := Aside0.mk (below_step (by repeat (first | (with_reducible first | exact HB.out | apply below_alloc | apply pw_below_drewN | apply below_drew1 | refine below_set ?_ GE234.out) | exact HB.out)) hb); have n2_ := Aside0.mk (hbox); have n3_ := Aside0.mk ((by rw [hg]; exact (below_size (by repeat (first | (with_reducible first | exact HB.out | apply below_alloc | apply pw_below_drewN | apply below_drew1 | refine below_set ?_ GE234.out) | exact HB.out))) : w.heap.size ≤ gb235)); have n4_ := Aside0.mk ((by rw [hg]; exact (below_size (by repeat (first | (with_reducible first | exact HB.out | apply below_alloc | apply pw_below_drewN | apply below_drew1 | refine below_set ?_ GE234.out) | exact HB.out))) : w.heap.size ≤ gb235)); have n5_ := Aside0.mk ((by rw [hg]; exact Nat.ne_of_lt (blk_lt (g := gb234) (o := .cells #[.string ((rd_T28 l0 x8_1).f0.f0), .string ((rd_T28 l0 x8_1).f0.f1), .string ((rd_T28 l0 x8_1).f0.f2), .string ((rd_T28 l0 x8_1).f0.f3), .int .i64 ((rd_T28 l0 x8_1).f0.f4), .int .i64 ((rd_T28 l0 x8_1).f1)] 28 (0, 0)) (by (with_reducible repeat (first | refine blk_drewN ?_ _ | refine blk_drew ?_ | refine blk_alloc ?_ _)); refine blk_put (cs := #[.string ((rd_T28 l0 x8_1).f0.f0), .string ((rd_T28 l0 x8_1).f0.f1), .string ((rd_T28 l0 x8_1).f0.f2), .string ((rd_T28 l0 x8_1).f0.f3), .int .i64 ((rd_T28 l0 x8_1).f0.f4), .int .i64 0]) ?_ 5 _ rfl; (with_reducible repeat (first | refine blk_drewN ?_ _ | refine blk_drew ?_ | refine blk_alloc ?_ _)); refine blk_put (cs := #[.string ((rd_T28 l0 x8_1).f0.f0), .string ((rd_T28 l0 x8_1).f0.f1), .string ((rd_T28 l0 x8_1).f0.f2), .string ((rd_T28 l0 x8_1).f0.f3), .int .i64 0, .int .i64 0]) ?_ 4 _ rfl; (with_reducible repeat (first | refine blk_drewN ?_ _ | refine blk_drew ?_ | refine blk_alloc ?_ _)); refine blk_put (cs := #[.string ((rd_T28 l0 x8_1).f0.f0), .string ((rd_T28 l0 x8_1).f0.f1), .string ((rd_T28 l0 x8_1).f0.f2), .string (⟨#[]⟩ : ByteArray), .int .i64 0, .int .i64 0]) ?_ 3 _ rfl; (with_reducible repeat (first | refine blk_drewN ?_ _ | refine blk_drew ?_ | refine blk_alloc ?_ _)); refine blk_put (cs := #[.string ((rd_T28 l0 x8_1).f0.f0), .string ((rd_T28 l0 x8_1).f0.f1), .string (⟨#[]⟩ : ByteArray), .string (⟨#[]⟩ : ByteArray), .int .i64 0, .int .i64 0]) ?_ 2 _ rfl; (with_reducible repeat (first | refine blk_drewN ?_ _ | refine blk_drew ?_ | refine blk_alloc ?_ _)); refine blk_put (cs := #[.string ((rd_T28 l0 x8_1).f0.f0), .string (⟨#[]⟩ : ByteArray), .string (⟨#[]⟩ : ByteArray), .string (⟨#[]⟩ : ByteArray), .int .i64 0, .int .i64 0]) ?_ 1 _ rfl; (with_reducible repeat (first | refine blk_drewN ?_ _ | refine blk_drew ?_ | refine blk_alloc ?_ _)); refine blk_put (cs := #[.string (⟨#[]⟩ : ByteArray), .string (⟨#[]⟩ : ByteArray), .string (⟨#[]⟩ : ByteArray), .string (⟨#[]⟩ : ByteArray), .int .i64 0, .int .i64 0]) ?_ 0 _ rfl; (with_reducible repeat (first | refine blk_drewN ?_ _ | refine blk_drew ?_ | refine blk_alloc ?_ _)); exact BK234.out)) : gb234 ≠ gb235)); have n6_ := Aside0.mk ((by rw [hg]; exact Nat.ne_of_gt (blk_lt (g := gb234) (o := .cells #[.string ((rd_T28 l0 x8_1).f0.f0), .string ((rd_T28 l0 x8_1).f0.f1), .string ((rd_T28 l0 x8_1).f0.f2), .string ((rd_T28 l0 x8_1).f0.f3), .int .i64 ((rd_T28 l0 x8_1).f0.f4), .int .i64 ((rd_T28 l0 x8_1).f1)] 28 (0, 0)) (by (with_reducible repeat (first | refine blk_drewN ?_ _ | refine blk_drew ?_ | refine blk_alloc ?_ _)); refine blk_put (cs := #[.string ((rd_T28 l0 x8_1).f0.f0), .string ((rd_T28 l0 x8_1).f0.f1), .string ((rd_T28 l0 x8_1).f0.f2), .string ((rd_T28 l0 x8_1).f0.f3), .int .i64 ((rd_T28 l0 x8_1).f0.f4), .int .i64 0]) ?_ 5 _ rfl; (with_reducible repeat (first | refine blk_drewN ?_ _ | refine blk_drew ?_ | refine blk_alloc ?_ _)); refine blk_put (cs := #[.string ((rd_T28 l0 x8_1).f0.f0), .string ((rd_T28 l0 x8_1).f0.f1), .string ((rd_T28 l0 x8_1).f0.f2), .string ((rd_T28 l0 x8_1).f0.f3), .int .i64 0, .int .i64 0]) ?_ 4 _ rfl; (with_reducible repeat (first | refine blk_drewN ?_ _ | refine blk_drew ?_ | refine blk_alloc ?_ _)); refine blk_put (cs := #[.string ((rd_T28 l0 x8_1).f0.f0), .string ((rd_T28 l0 x8_1).f0.f1), .string ((rd_T28 l0 x8_1).f0.f2), .string (⟨#[]⟩ : ByteArray), .int .i64 0, .int .i64 0]) ?_ 3 _ rfl; (with_reducible repeat (first | refine blk_drewN ?_ _ | refine blk_drew ?_ | refine blk_alloc ?_ _)); refine blk_put (cs := #[.string ((rd_T28 l0 x8_1).f0.f0), .string ((rd_T28 l0 x8_1).f0.f1), .string (⟨#[]⟩ : ByteArray), .string (⟨#[]⟩ : ByteArray), .int .i64 0, .int .i64 0]) ?_ 2 _ rfl; (with_reducible repeat (first | refine blk_drewN ?_ _ | refine blk_drew ?_ | refine blk_alloc ?_ _)); refine blk_put (cs := #[.string ((rd_T28 l0 x8_1).f0.f0), .string (⟨#[]⟩ : ByteArray), .string (⟨#[]⟩ : ByteArray), .string (⟨#[]⟩ : ByteArray), .int .i64 0, .int .i64 0]) ?_ 1 _ rfl; (with_reducible repeat (first | refine blk_drewN ?_ _ | refine blk_drew ?_ | refine blk_alloc ?_ _)); refine blk_put (cs := #[.string (⟨#[]⟩ : ByteArray), .string (⟨#[]⟩ : ByteArray), .string (⟨#[]⟩ : ByteArray), .string (⟨#[]⟩ : ByteArray), .int .i64 0, .int .i64 0]) ?_ 0 _ rfl; (with_reducible repeat (first | refine blk_drewN ?_ _ | refine blk_drew ?_ | refine blk_alloc ?_ _)); exact BK234.out)) : gb235 ≠ gb234)); clear BK234; clear HB; have BK234 := n0_; have HB := n1_; have BK235 := n2_; have GW235 := n3_; have GE235 := n4_; have NB234_235 := n5_; have NB235_234 := n6_; clear n0_ n1_ n2_ n3_ n4_ n5_ n6_; clear hb hbox hg; have hnb27 := NB235_234.out; have hnc27 := NB234_235.out; have hcz28_0 : w26.cell? ⟨gb235, 0, none⟩ = some (.string (⟨#[]⟩ : ByteArray)) := (blk_cell BK235.out 0).trans rfl; have hcz28_1 : w26.cell? ⟨gb235, 1, none⟩ = some (.string (⟨#[]⟩ : ByteArray)) := (blk_cell BK235.out 1).trans rfl; have hcz28_2 : w26.cell? ⟨gb235, 2, none⟩ = some (.string (⟨#[]⟩ : ByteArray)) := (blk_cell BK235.out 2).trans rfl; have hcz28_3 : w26.cell? ⟨gb235, 3, none⟩ = some (.string (⟨#[]⟩ : ByteArray)) := (blk_cell BK235.out 3).trans rfl; have hcz28_4 : w26.cell? ⟨gb235, 4, none⟩ = some (.int .i64 0) := (blk_cell BK235.out 4).trans rfl; have hfz28_0 := blk_frozen BK235.out 0; have hfz28_1 := blk_frozen BK235.out 1; have hfz28_2 := blk_frozen BK235.out 2; have hfz28_3 := blk_frozen BK235.out 3; have hfz28_4 := blk_frozen BK235.out 4))
          go_ret
          exact ⟨re_, by repeat (first | (with_reducible first | exact HB.out | apply below_alloc | apply pw_below_drewN | apply below_drew1 | refine below_set ?_ GE234.out | refine below_set ?_ GE235.out) | exact HB.out)⟩
         ·rw [if_neg c23] at H
          have c23b0 : decide (40 < (((rd_T28 l0 x8_1).f0.f3).size : Int)) = false := decide_eq_false c23
          have c23b1 : decide (40 < ((rd_T28 l0 x8_1).f0.f3).size) = false := decide_eq_false (by omega)
          clear c23
          have H' := Aside0.mk H
          clear H
          have p233 : 0 ≤ (x8_1 : Int) := of_decide_eq_true as_
          have q233 : x8_1 < (l0.length : Int) := of_decide_eq_true as_
          obtain ⟨ad233, e233, hx233_0, hx233_1, hx233_2, hx233_3, hx233_4, hx233_5⟩ := at_T28 HR0.out x8_1 p233 q233
          cases e233
          replace hx233_0 := cb HB hx233_0
          replace hx233_1 := cb HB hx233_1
          replace hx233_2 := cb HB hx233_2
          replace hx233_3 := cb HB hx233_3
          replace hx233_4 := cb HB hx233_4
          replace hx233_5 := cb HB hx233_5
          replace p233 := eq_true p233
          replace q233 := eq_true q233
          go_wp2_with (first | ((with_reducible refine gate_dst (N := 4) rfl ?_); (try (refine gate_guard (by rfl) ?_; dsimp only)); refine box_event ?hg (N := 4) ?hd (cs := #[.string (⟨#[]⟩ : ByteArray), .string (⟨#[]⟩ : ByteArray), .string (⟨#[]⟩ : ByteArray), .string (⟨#[]⟩ : ByteArray), .int .i64 0, .int .i64 0]) (t := 28) ?hr ?_; (case hd => rfl); (case hg => rfl); (case hr => first | (go_simp; done) | (go_simp; rfl)); intro gb234 hg w29 hbox hb; have n0_ := Aside0.mk (below_step bw hb); have n1_ := Aside0.mk (hbox); have n2_ := Aside0.mk ((by rw [hg]; exact (below_size bw) : w.heap.size ≤ gb234)); have n3_ := Aside0.mk ((by rw [hg]; exact (below_size bw) : w.heap.size ≤ gb234)); clear HB; have HB := n0_; have BK234 := n1_; have GW234 := n2_; have GE234 := n3_; clear n0_ n1_ n2_ n3_; clear hb hbox hg; have hcz30_0 : w29.cell? ⟨gb234, 0, none⟩ = some (.string (⟨#[]⟩ : ByteArray)) := (blk_cell BK234.out 0).trans rfl; have hcz30_1 : w29.cell? ⟨gb234, 1, none⟩ = some (.string (⟨#[]⟩ : ByteArray)) := (blk_cell BK234.out 1).trans rfl; have hcz30_2 : w29.cell? ⟨gb234, 2, none⟩ = some (.string (⟨#[]⟩ : ByteArray)) := (blk_cell BK234.out 2).trans rfl; have hcz30_3 : w29.cell? ⟨gb234, 3, none⟩ = some (.string (⟨#[]⟩ : ByteArray)) := (blk_cell BK234.out 3).trans rfl; have hcz30_4 : w29.cell? ⟨gb234, 4, none⟩ = some (.int .i64 0) := (blk_cell BK234.out 4).trans rfl; have hcz30_5 : w29.cell? ⟨gb234, 5, none⟩ = some (.int .i64 0) := (blk_cell BK234.out 5).trans rfl; have hfz30_0 := blk_frozen BK234.out 0; have hfz30_1 := blk_frozen BK234.out 1; have hfz30_2 := blk_frozen BK234.out 2; have hfz30_3 := blk_frozen BK234.out 3; have hfz30_4 := blk_frozen BK234.out 4; have hfz30_5 := blk_frozen BK234.out 5) | ((with_reducible refine gate_dst (N := 5) rfl ?_); (try (refine gate_guard (by rfl) ?_; dsimp only)); refine box_event ?hg (N := 5) ?hd (cs := #[.string (⟨#[]⟩ : ByteArray), .string (⟨#[]⟩ : ByteArray), .string (⟨#[]⟩ : ByteArray), .string (⟨#[]⟩ : ByteArray), .int .i64 0]) (t := 24) ?hr ?_; (case hd => rfl); (case hg => rfl); (case hr => first | (go_simp; done) | (go_simp; rfl)); intro gb235 hg w31 hbox hb; have n0_ := Aside0.mk (blk_below (g := gb234) (o := .cells #[.string ((rd_T28 l0 x8_1).f0.f0), .string ((rd_T28 l0 x8_1).f0.f1), .string ((rd_T28 l0 x8_1).f0.f2), .string ((rd_T28 l0 x8_1).f0.f3), .int .i64 ((rd_T28 l0 x8_1).f0.f4), .int .i64 ((rd_T28 l0 x8_1).f1)] 28 (0, 0)) (by (with_reducible repeat (first | refine blk_drewN ?_ _ | refine blk_drew ?_ | refine blk_alloc ?_ _)); refine blk_put (cs := #[.string ((rd_T28 l0 x8_1).f0.f0), .string ((rd_T28 l0 x8_1).f0.f1), .string ((rd_T28 l0 x8_1).f0.f2), .string ((rd_T28 l0 x8_1).f0.f3), .int .i64 ((rd_T28 l0 x8_1).f0.f4), .int .i64 0]) ?_ 5 _ rfl; (with_reducible repeat (first | refine blk_drewN ?_ _ | refine blk_drew ?_ | refine blk_alloc ?_ _)); refine blk_put (cs := #[.string ((rd_T28 l0 x8_1).f0.f0), .string ((rd_T28 l0 x8_1).f0.f1), .string ((rd_T28 l0 x8_1).f0.f2), .string ((rd_T28 l0 x8_1).f0.f3), .int .i64 0, .int .i64 0]) ?_ 4 _ rfl; (with_reducible repeat (first | refine blk_drewN ?_ _ | refine blk_drew ?_ | refine blk_alloc ?_ _)); refine blk_put (cs := #[.string ((rd_T28 l0 x8_1).f0.f0), .string ((rd_T28 l0 x8_1).f0.f1), .string ((rd_T28 l0 x8_1).f0.f2), .string (⟨#[]⟩ : ByteArray), .int .i64 0, .int .i64 0]) ?_ 3 _ rfl; (with_reducible repeat (first | refine blk_drewN ?_ _ | refine blk_drew ?_ | refine blk_alloc ?_ _)); refine blk_put (cs := #[.string ((rd_T28 l0 x8_1).f0.f0), .string ((rd_T28 l0 x8_1).f0.f1), .string (⟨#[]⟩ : ByteArray), .string (⟨#[]⟩ : ByteArray), .int .i64 0, .int .i64 0]) ?_ 2 _ rfl; (with_reducible repeat (first | refine blk_drewN ?_ _ | refine blk_drew ?_ | refine blk_alloc ?_ _)); refine blk_put (cs := #[.string ((rd_T28 l0 x8_1).f0.f0), .string (⟨#[]⟩ : ByteArray), .string (⟨#[]⟩ : ByteArray), .string (⟨#[]⟩ : ByteArray), .int .i64 0, .int .i64 0]) ?_ 1 _ rfl; (with_reducible repeat (first | refine blk_drewN ?_ _ | refine blk_drew ?_ | refine blk_alloc ?_ _)); refine blk_put (cs := #[.string (⟨#[]⟩ : ByteArray), .string (⟨#[]⟩ : ByteArray), .string (⟨#[]⟩ : ByteArray), .string (⟨#[]⟩ : ByteArray), .int .i64 0, .int .i64 0]) ?_ 0 _ rfl; (with_reducible repeat (first | refine blk_drewN ?_ _ | refine blk_drew ?_ | refine blk_alloc ?_ _)); exact BK234.out) hb); have n1_ := Aside0.mk (below_step (by repeat (first | (with_reducible first | exact HB.out | apply below_alloc | apply pw_below_drewN | apply below_drew1 | refine below_set ?_ GE234.out) | exact HB.out)) hb); have n2_ := Aside0.mk (hbox); have n3_ := Aside0.mk ((by rw [hg]; exact (below_size (by repeat (first | (with_reducible first | exact HB.out | apply below_alloc | apply pw_below_drewN | apply below_drew1 | refine below_set ?_ GE234.out) | exact HB.out))) : w.heap.size ≤ gb235)); have n4_ := Aside0.mk ((by rw [hg]; exact (below_size (by repeat (first | (with_reducible first | exact HB.out | apply below_alloc | apply pw_below_drewN | apply below_drew1 | refine below_set ?_ GE234.out) | exact HB.out))) : w.heap.size ≤ gb235)); have n5_ := Aside0.mk ((by rw [hg]; exact Nat.ne_of_lt (blk_lt (g := gb234) (o := .cells #[.string ((rd_T28 l0 x8_1).f0.f0), .string ((rd_T28 l0 x8_1).f0.f1), .string ((rd_T28 l0 x8_1).f0.f2), .string ((rd_T28 l0 x8_1).f0.f3), .int .i64 ((rd_T28 l0 x8_1).f0.f4), .int .i64 ((rd_T28 l0 x8_1).f1)] 28 (0, 0)) (by (with_reducible repeat (first | refine blk_drewN ?_ _ | refine blk_drew ?_ | refine blk_alloc ?_ _)); refine blk_put (cs := #[.string ((rd_T28 l0 x8_1).f0.f0), .string ((rd_T28 l0 x8_1).f0.f1), .string ((rd_T28 l0 x8_1).f0.f2), .string ((rd_T28 l0 x8_1).f0.f3), .int .i64 ((rd_T28 l0 x8_1).f0.f4), .int .i64 0]) ?_ 5 _ rfl; (with_reducible repeat (first | refine blk_drewN ?_ _ | refine blk_drew ?_ | refine blk_alloc ?_ _)); refine blk_put (cs := #[.string ((rd_T28 l0 x8_1).f0.f0), .string ((rd_T28 l0 x8_1).f0.f1), .string ((rd_T28 l0 x8_1).f0.f2), .string ((rd_T28 l0 x8_1).f0.f3), .int .i64 0, .int .i64 0]) ?_ 4 _ rfl; (with_reducible repeat (first | refine blk_drewN ?_ _ | refine blk_drew ?_ | refine blk_alloc ?_ _)); refine blk_put (cs := #[.string ((rd_T28 l0 x8_1).f0.f0), .string ((rd_T28 l0 x8_1).f0.f1), .string ((rd_T28 l0 x8_1).f0.f2), .string (⟨#[]⟩ : ByteArray), .int .i64 0, .int .i64 0]) ?_ 3 _ rfl; (with_reducible repeat (first | refine blk_drewN ?_ _ | refine blk_drew ?_ | refine blk_alloc ?_ _)); refine blk_put (cs := #[.string ((rd_T28 l0 x8_1).f0.f0), .string ((rd_T28 l0 x8_1).f0.f1), .string (⟨#[]⟩ : ByteArray), .string (⟨#[]⟩ : ByteArray), .int .i64 0, .int .i64 0]) ?_ 2 _ rfl; (with_reducible repeat (first | refine blk_drewN ?_ _ | refine blk_drew ?_ | refine blk_alloc ?_ _)); refine blk_put (cs := #[.string ((rd_T28 l0 x8_1).f0.f0), .string (⟨#[]⟩ : ByteArray), .string (⟨#[]⟩ : ByteArray), .string (⟨#[]⟩ : ByteArray), .int .i64 0, .int .i64 0]) ?_ 1 _ rfl; (with_reducible repeat (first | refine blk_drewN ?_ _ | refine blk_drew ?_ | refine blk_alloc ?_ _)); refine blk_put (cs := #[.string (⟨#[]⟩ : ByteArray), .string (⟨#[]⟩ : ByteArray), .string (⟨#[]⟩ : ByteArray), .string (⟨#[]⟩ : ByteArray), .int .i64 0, .int .i64 0]) ?_ 0 _ rfl; (with_reducible repeat (first | refine blk_drewN ?_ _ | refine blk_drew ?_ | refine blk_alloc ?_ _)); exact BK234.out)) : gb234 ≠ gb235)); have n6_ := Aside0.mk ((by rw [hg]; exact Nat.ne_of_gt (blk_lt (g := gb234) (o := .cells #[.string ((rd_T28 l0 x8_1).f0.f0), .string ((rd_T28 l0 x8_1).f0.f1), .string ((rd_T28 l0 x8_1).f0.f2), .string ((rd_T28 l0 x8_1).f0.f3), .int .i64 ((rd_T28 l0 x8_1).f0.f4), .int .i64 ((rd_T28 l0 x8_1).f1)] 28 (0, 0)) (by (with_reducible repeat (first | refine blk_drewN ?_ _ | refine blk_drew ?_ | refine blk_alloc ?_ _)); refine blk_put (cs := #[.string ((rd_T28 l0 x8_1).f0.f0), .string ((rd_T28 l0 x8_1).f0.f1), .string ((rd_T28 l0 x8_1).f0.f2), .string ((rd_T28 l0 x8_1).f0.f3), .int .i64 ((rd_T28 l0 x8_1).f0.f4), .int .i64 0]) ?_ 5 _ rfl; (with_reducible repeat (first | refine blk_drewN ?_ _ | refine blk_drew ?_ | refine blk_alloc ?_ _)); refine blk_put (cs := #[.string ((rd_T28 l0 x8_1).f0.f0), .string ((rd_T28 l0 x8_1).f0.f1), .string ((rd_T28 l0 x8_1).f0.f2), .string ((rd_T28 l0 x8_1).f0.f3), .int .i64 0, .int .i64 0]) ?_ 4 _ rfl; (with_reducible repeat (first | refine blk_drewN ?_ _ | refine blk_drew ?_ | refine blk_alloc ?_ _)); refine blk_put (cs := #[.string ((rd_T28 l0 x8_1).f0.f0), .string ((rd_T28 l0 x8_1).f0.f1), .string ((rd_T28 l0 x8_1).f0.f2), .string (⟨#[]⟩ : ByteArray), .int .i64 0, .int .i64 0]) ?_ 3 _ rfl; (with_reducible repeat (first | refine blk_drewN ?_ _ | refine blk_drew ?_ | refine blk_alloc ?_ _)); refine blk_put (cs := #[.string ((rd_T28 l0 x8_1).f0.f0), .string ((rd_T28 l0 x8_1).f0.f1), .string (⟨#[]⟩ : ByteArray), .string (⟨#[]⟩ : ByteArray), .int .i64 0, .int .i64 0]) ?_ 2 _ rfl; (with_reducible repeat (first | refine blk_drewN ?_ _ | refine blk_drew ?_ | refine blk_alloc ?_ _)); refine blk_put (cs := #[.string ((rd_T28 l0 x8_1).f0.f0), .string (⟨#[]⟩ : ByteArray), .string (⟨#[]⟩ : ByteArray), .string (⟨#[]⟩ : ByteArray), .int .i64 0, .int .i64 0]) ?_ 1 _ rfl; (with_reducible repeat (first | refine blk_drewN ?_ _ | refine blk_drew ?_ | refine blk_alloc ?_ _)); refine blk_put (cs := #[.string (⟨#[]⟩ : ByteArray), .string (⟨#[]⟩ : ByteArray), .string (⟨#[]⟩ : ByteArray), .string (⟨#[]⟩ : ByteArray), .int .i64 0, .int .i64 0]) ?_ 0 _ rfl; (with_reducible repeat (first | refine blk_drewN ?_ _ | refine blk_drew ?_ | refine blk_alloc ?_ _)); exact BK234.out)) : gb235 ≠ gb234)); clear BK234; clear HB; have BK234 := n0_; have HB := n1_; have BK235 := n2_; have GW235 := n3_; have GE235 := n4_; have NB234_235 := n5_; have NB235_234 := n6_; clear n0_ n1_ n2_ n3_ n4_ n5_ n6_; clear hb hbox hg; have hnb32 := NB235_234.out; have hnc32 := NB234_235.out; have hcz33_0 : w31.cell? ⟨gb235, 0, none⟩ = some (.string (⟨#[]⟩ : ByteArray)) := (blk_cell BK235.out 0).trans rfl; have hcz33_1 : w31.cell? ⟨gb235, 1, none⟩ = some (.string (⟨#[]⟩ : ByteArray)) := (blk_cell BK235.out 1).trans rfl; have hcz33_2 : w31.cell? ⟨gb235, 2, none⟩ = some (.string (⟨#[]⟩ : ByteArray)) := (blk_cell BK235.out 2).trans rfl; have hcz33_3 : w31.cell? ⟨gb235, 3, none⟩ = some (.string (⟨#[]⟩ : ByteArray)) := (blk_cell BK235.out 3).trans rfl; have hcz33_4 : w31.cell? ⟨gb235, 4, none⟩ = some (.int .i64 0) := (blk_cell BK235.out 4).trans rfl; have hfz33_0 := blk_frozen BK235.out 0; have hfz33_1 := blk_frozen BK235.out 1; have hfz33_2 := blk_frozen BK235.out 2; have hfz33_3 := blk_frozen BK235.out 3; have hfz33_4 := blk_frozen BK235.out 4))
          go_roundg k1
          case measure => have := HK1.out; omega
          case rel => exact ⟨(wrap64 (x8_1 + 1)), rs_, H', ⟨by have := HK1.out; omega⟩, ⟨by repeat (first | (with_reducible first | exact HB.out | apply below_alloc | apply pw_below_drewN | apply below_drew1 | refine below_set ?_ GE234.out | refine below_set ?_ GE235.out) | exact HB.out)⟩⟩
     ·rw [if_neg c4] at H
      exact absurd H (by simp)
    ·rw [if_neg c3] at H
     exact absurd H (by simp)
   ·rw [if_neg c2] at H
    have c2b0 : decide (x8_1 < (l0.length : Int)) = false := decide_eq_false c2
    clear c2
    obtain rfl := Option.some.inj H
    go_wp2
    go_ret
    exact ⟨re_, bw⟩
/-! ### comptrollerlaw09_small: function 20 -/
def comptrollerlaw09_small.l0 : Nat → List (S28) → Int → Int → Option (Bool)
 | 0, _, _, _ => none
 | k + 1, x5, x6, x7 => if x7 < x6 then (if 0 ≤ x7 then (if x7 < (x5.length : Int) then (if ((rd_T28 x5 x7).f1) > 4503599627370496 then (some false) else (if ((rd_T28 x5 x7).f1) < (-4503599627370496) then (some false) else (comptrollerlaw09_small.l0 k x5 x6 (wrap64 (x7 + 1))))) else (none)) else (none)) else (some true)
def comptrollerlaw09_small.f (k : Nat) (l0 : List (S28)) : Option (Bool) := comptrollerlaw09_small.l0 k l0 (l0.length : Int) 0
theorem comptrollerlaw09_small.mono_l : ∀ k, (∀ y0 y1 y2, LeO (comptrollerlaw09_small.l0 k y0 y1 y2) (comptrollerlaw09_small.l0 (k + 1) y0 y1 y2))
 | 0 => fun _ _ _ r h => by simp [comptrollerlaw09_small.l0] at h
 | k + 1 => by
  have ih0 := comptrollerlaw09_small.mono_l k
  ·intro y0 y1 y2
   unfold comptrollerlaw09_small.l0
   repeat' first
   | (with_reducible exact ih0 _ _ _)
   | (with_reducible exact LeO.refl _)
   | (with_reducible exact LeO.none _)
   | (with_reducible refine LeO.ite ?_ ?_)
   | (with_reducible refine LeO.bind ?_ (fun _ => ?_))
   | exact ih0 _ _ _
   | exact LeO.none _
   | refine LeO.ite ?_ ?_
   | refine LeO.bind ?_ (fun _ => ?_)
theorem comptrollerlaw09_small.mono : ∀ a0 k, LeO (comptrollerlaw09_small.f k a0) (comptrollerlaw09_small.f (k + 1) a0) := by
 intro a0 k
 have ih0 := comptrollerlaw09_small.mono_l k
 unfold comptrollerlaw09_small.f
 repeat' first
   | (with_reducible exact ih0 _ _ _)
   | (with_reducible exact LeO.refl _)
   | (with_reducible exact LeO.none _)
   | (with_reducible refine LeO.ite ?_ ?_)
   | (with_reducible refine LeO.bind ?_ (fun _ => ?_))
   | exact ih0 _ _ _
   | exact LeO.none _
   | refine LeO.ite ?_ ?_
   | refine LeO.bind ?_ (fun _ => ?_)
set_option maxHeartbeats 8000000 in
set_option maxRecDepth 100000 in
theorem comptrollerlaw09_small.calls (k : Nat) (A0 : Option Addr) (c0 : Nat) (l0 : List (S28)) (r : Bool) (w : World) (hr0 : Kd.C k28 w A0 l0.length l0) (hc0 : l0.length ≤ c0) (h : comptrollerlaw09_small.f k l0 = some r) :
  Calls Try.prog 20 #[.slice A0 l0.length c0] w fun e w' => e = .returned (.bool r) ∧ Below w.heap.size w w' := by
 have hu28 := Try.underlying28
 have HR0 := Aside0.mk hr0
 have HC0 := Aside0.mk hc0
 clear hr0 hc0
 have HB := Aside0.mk (Below.refl w.heap.size w)
 have H : (comptrollerlaw09_small.l0 k l0 (l0.length : Int) 0) = some r := h
 clear h
 have H' := Aside0.mk H
 clear H
 go_enter Try.func20, Try.ntmps20
 go_wp2
 go_loopg [7] k (fun kq v7 w' => ∃ (x7_1 : Int), v7 = .int .i64 x7_1 ∧ Aside0 (comptrollerlaw09_small.l0 kq l0 (l0.length : Int) x7_1 = some r) ∧ Aside0 (kq ≤ k) ∧ Aside0 (Below w.heap.size w w'))
 case atStart => exact ⟨(0), rs_, H', ⟨Nat.le_refl _⟩, ⟨bw⟩⟩
 case round =>
  clear H'
  obtain ⟨x7_1, rfl, HA, HK1, HB⟩ := hrel
  cases gk with
  | zero => exact absurd HA.out (by simp [comptrollerlaw09_small.l0])
  | succ k1 =>
   have H := HA.out
   clear HA
   simp only [comptrollerlaw09_small.l0] at H
   by_cases c2 : x7_1 < (l0.length : Int)
   ·rw [if_pos c2] at H
    have c2b0 : decide (x7_1 < (l0.length : Int)) = true := decide_eq_true c2
    clear c2
    by_cases c3 : 0 ≤ x7_1
    ·rw [if_pos c3] at H
     have c3b0 : decide (0 ≤ x7_1) = true := decide_eq_true c3
     clear c3
     by_cases c4 : x7_1 < (l0.length : Int)
     ·rw [if_pos c4] at H
      have c4b0 : decide (x7_1 < (l0.length : Int)) = true := decide_eq_true c4
      clear c4
      by_cases c5 : ((rd_T28 l0 x7_1).f1) > 4503599627370496
      ·rw [if_pos c5] at H
       have c5b0 : decide (4503599627370496 < ((rd_T28 l0 x7_1).f1)) = true := decide_eq_true c5
       clear c5
       obtain rfl := Option.some.inj H
       have p435 : 0 ≤ (x7_1 : Int) := of_decide_eq_true as_
       have q435 : x7_1 < (l0.length : Int) := of_decide_eq_true as_
       obtain ⟨ad435, e435, hx435_0, hx435_1, hx435_2, hx435_3, hx435_4, hx435_5⟩ := at_T28 HR0.out x7_1 p435 q435
       cases e435
       replace hx435_0 := cb HB hx435_0
       replace hx435_1 := cb HB hx435_1
       replace hx435_2 := cb HB hx435_2
       replace hx435_3 := cb HB hx435_3
       replace hx435_4 := cb HB hx435_4
       replace hx435_5 := cb HB hx435_5
       replace p435 := eq_true p435
       replace q435 := eq_true q435
       go_wp2_with (first | ((with_reducible refine gate_dst (N := 4) rfl ?_); refine box_event ?hg (N := 4) ?hd (cs := #[.string (⟨#[]⟩ : ByteArray), .string (⟨#[]⟩ : ByteArray), .string (⟨#[]⟩ : ByteArray), .string (⟨#[]⟩ : ByteArray), .int .i64 0, .int .i64 0]) (t := 28) ?hr ?_; (case hd => rfl); (case hg => rfl); (case hr => first | (go_simp; done) | (go_simp; rfl)); intro gb436 hg w6 hbox hb; have n0_ := Aside0.mk (below_step bw hb); have n1_ := Aside0.mk (hbox); have n2_ := Aside0.mk ((by rw [hg]; exact (below_size bw) : w.heap.size ≤ gb436)); have n3_ := Aside0.mk ((by rw [hg]; exact (below_size bw) : w.heap.size ≤ gb436)); clear HB; have HB := n0_; have BK436 := n1_; have GW436 := n2_; have GE436 := n3_; clear n0_ n1_ n2_ n3_; clear hb hbox hg; have hcz7_0 : w6.cell? ⟨gb436, 0, none⟩ = some (.string (⟨#[]⟩ : ByteArray)) := (blk_cell BK436.out 0).trans rfl; have hcz7_1 : w6.cell? ⟨gb436, 1, none⟩ = some (.string (⟨#[]⟩ : ByteArray)) := (blk_cell BK436.out 1).trans rfl; have hcz7_2 : w6.cell? ⟨gb436, 2, none⟩ = some (.string (⟨#[]⟩ : ByteArray)) := (blk_cell BK436.out 2).trans rfl; have hcz7_3 : w6.cell? ⟨gb436, 3, none⟩ = some (.string (⟨#[]⟩ : ByteArray)) := (blk_cell BK436.out 3).trans rfl; have hcz7_4 : w6.cell? ⟨gb436, 4, none⟩ = some (.int .i64 0) := (blk_cell BK436.out 4).trans rfl; have hcz7_5 : w6.cell? ⟨gb436, 5, none⟩ = some (.int .i64 0) := (blk_cell BK436.out 5).trans rfl; have hfz7_0 := blk_frozen BK436.out 0; have hfz7_1 := blk_frozen BK436.out 1; have hfz7_2 := blk_frozen BK436.out 2; have hfz7_3 := blk_frozen BK436.out 3; have hfz7_4 := blk_frozen BK436.out 4; have hfz7_5 := blk_frozen BK436.out 5))
       go_ret
       exact ⟨re_, by repeat (first | (with_reducible first | exact HB.out | apply below_alloc | apply pw_below_drewN | apply below_drew1 | refine below_set ?_ GE436.out) | exact HB.out)⟩
      ·rw [if_neg c5] at H
       have c5b0 : decide (4503599627370496 < ((rd_T28 l0 x7_1).f1)) = false := decide_eq_false c5
       clear c5
       by_cases c8 : ((rd_T28 l0 x7_1).f1) < (-4503599627370496)
       ·rw [if_pos c8] at H
        have c8b0 : decide (((rd_T28 l0 x7_1).f1) < (-4503599627370496)) = true := decide_eq_true c8
        clear c8
        obtain rfl := Option.some.inj H
        have p435 : 0 ≤ (x7_1 : Int) := of_decide_eq_true as_
        have q435 : x7_1 < (l0.length : Int) := of_decide_eq_true as_
        obtain ⟨ad435, e435, hx435_0, hx435_1, hx435_2, hx435_3, hx435_4, hx435_5⟩ := at_T28 HR0.out x7_1 p435 q435
        cases e435
        replace hx435_0 := cb HB hx435_0
        replace hx435_1 := cb HB hx435_1
        replace hx435_2 := cb HB hx435_2
        replace hx435_3 := cb HB hx435_3
        replace hx435_4 := cb HB hx435_4
        replace hx435_5 := cb HB hx435_5
        replace p435 := eq_true p435
        replace q435 := eq_true q435
        go_wp2_with (first | ((with_reducible refine gate_dst (N := 4) rfl ?_); refine box_event ?hg (N := 4) ?hd (cs := #[.string (⟨#[]⟩ : ByteArray), .string (⟨#[]⟩ : ByteArray), .string (⟨#[]⟩ : ByteArray), .string (⟨#[]⟩ : ByteArray), .int .i64 0, .int .i64 0]) (t := 28) ?hr ?_; (case hd => rfl); (case hg => rfl); (case hr => first | (go_simp; done) | (go_simp; rfl)); intro gb436 hg w9 hbox hb; have n0_ := Aside0.mk (below_step bw hb); have n1_ := Aside0.mk (hbox); have n2_ := Aside0.mk ((by rw [hg]; exact (below_size bw) : w.heap.size ≤ gb436)); have n3_ := Aside0.mk ((by rw [hg]; exact (below_size bw) : w.heap.size ≤ gb436)); clear HB; have HB := n0_; have BK436 := n1_; have GW436 := n2_; have GE436 := n3_; clear n0_ n1_ n2_ n3_; clear hb hbox hg; have hcz10_0 : w9.cell? ⟨gb436, 0, none⟩ = some (.string (⟨#[]⟩ : ByteArray)) := (blk_cell BK436.out 0).trans rfl; have hcz10_1 : w9.cell? ⟨gb436, 1, none⟩ = some (.string (⟨#[]⟩ : ByteArray)) := (blk_cell BK436.out 1).trans rfl; have hcz10_2 : w9.cell? ⟨gb436, 2, none⟩ = some (.string (⟨#[]⟩ : ByteArray)) := (blk_cell BK436.out 2).trans rfl; have hcz10_3 : w9.cell? ⟨gb436, 3, none⟩ = some (.string (⟨#[]⟩ : ByteArray)) := (blk_cell BK436.out 3).trans rfl; have hcz10_4 : w9.cell? ⟨gb436, 4, none⟩ = some (.int .i64 0) := (blk_cell BK436.out 4).trans rfl; have hcz10_5 : w9.cell? ⟨gb436, 5, none⟩ = some (.int .i64 0) := (blk_cell BK436.out 5).trans rfl; have hfz10_0 := blk_frozen BK436.out 0; have hfz10_1 := blk_frozen BK436.out 1; have hfz10_2 := blk_frozen BK436.out 2; have hfz10_3 := blk_frozen BK436.out 3; have hfz10_4 := blk_frozen BK436.out 4; have hfz10_5 := blk_frozen BK436.out 5))
        go_ret
        exact ⟨re_, by repeat (first | (with_reducible first | exact HB.out | apply below_alloc | apply pw_below_drewN | apply below_drew1 | refine below_set ?_ GE436.out) | exact HB.out)⟩
       ·rw [if_neg c8] at H
        have c8b0 : decide (((rd_T28 l0 x7_1).f1) < (-4503599627370496)) = false := decide_eq_false c8
        clear c8
        have H' := Aside0.mk H
        clear H
        have p435 : 0 ≤ (x7_1 : Int) := of_decide_eq_true as_
        have q435 : x7_1 < (l0.length : Int) := of_decide_eq_true as_
        obtain ⟨ad435, e435, hx435_0, hx435_1, hx435_2, hx435_3, hx435_4, hx435_5⟩ := at_T28 HR0.out x7_1 p435 q435
        cases e435
        replace hx435_0 := cb HB hx435_0
        replace hx435_1 := cb HB hx435_1
        replace hx435_2 := cb HB hx435_2
        replace hx435_3 := cb HB hx435_3
        replace hx435_4 := cb HB hx435_4
        replace hx435_5 := cb HB hx435_5
        replace p435 := eq_true p435
        replace q435 := eq_true q435
        go_wp2_with (first | ((with_reducible refine gate_dst (N := 4) rfl ?_); refine box_event ?hg (N := 4) ?hd (cs := #[.string (⟨#[]⟩ : ByteArray), .string (⟨#[]⟩ : ByteArray), .string (⟨#[]⟩ : ByteArray), .string (⟨#[]⟩ : ByteArray), .int .i64 0, .int .i64 0]) (t := 28) ?hr ?_; (case hd => rfl); (case hg => rfl); (case hr => first | (go_simp; done) | (go_simp; rfl)); intro gb436 hg w11 hbox hb; have n0_ := Aside0.mk (below_step bw hb); have n1_ := Aside0.mk (hbox); have n2_ := Aside0.mk ((by rw [hg]; exact (below_size bw) : w.heap.size ≤ gb436)); have n3_ := Aside0.mk ((by rw [hg]; exact (below_size bw) : w.heap.size ≤ gb436)); clear HB; have HB := n0_; have BK436 := n1_; have GW436 := n2_; have GE436 := n3_; clear n0_ n1_ n2_ n3_; clear hb hbox hg; have hcz12_0 : w11.cell? ⟨gb436, 0, none⟩ = some (.string (⟨#[]⟩ : ByteArray)) := (blk_cell BK436.out 0).trans rfl; have hcz12_1 : w11.cell? ⟨gb436, 1, none⟩ = some (.string (⟨#[]⟩ : ByteArray)) := (blk_cell BK436.out 1).trans rfl; have hcz12_2 : w11.cell? ⟨gb436, 2, none⟩ = some (.string (⟨#[]⟩ : ByteArray)) := (blk_cell BK436.out 2).trans rfl; have hcz12_3 : w11.cell? ⟨gb436, 3, none⟩ = some (.string (⟨#[]⟩ : ByteArray)) := (blk_cell BK436.out 3).trans rfl; have hcz12_4 : w11.cell? ⟨gb436, 4, none⟩ = some (.int .i64 0) := (blk_cell BK436.out 4).trans rfl; have hcz12_5 : w11.cell? ⟨gb436, 5, none⟩ = some (.int .i64 0) := (blk_cell BK436.out 5).trans rfl; have hfz12_0 := blk_frozen BK436.out 0; have hfz12_1 := blk_frozen BK436.out 1; have hfz12_2 := blk_frozen BK436.out 2; have hfz12_3 := blk_frozen BK436.out 3; have hfz12_4 := blk_frozen BK436.out 4; have hfz12_5 := blk_frozen BK436.out 5))
        go_roundg k1
        case measure => have := HK1.out; omega
        case rel => exact ⟨(wrap64 (x7_1 + 1)), rs_, H', ⟨by have := HK1.out; omega⟩, ⟨by repeat (first | (with_reducible first | exact HB.out | apply below_alloc | apply pw_below_drewN | apply below_drew1 | refine below_set ?_ GE436.out) | exact HB.out)⟩⟩
     ·rw [if_neg c4] at H
      exact absurd H (by simp)
    ·rw [if_neg c3] at H
     exact absurd H (by simp)
   ·rw [if_neg c2] at H
    have c2b0 : decide (x7_1 < (l0.length : Int)) = false := decide_eq_false c2
    clear c2
    obtain rfl := Option.some.inj H
    go_wp2
    go_ret
    exact ⟨re_, bw⟩
/-! ### comptrollerlaw09_Theirs: function 10 -/
def comptrollerlaw09_Theirs.l0 : Nat → List (S55) → List (S28) → Int → Int → Option ((List (S55)))
 | 0, _, _, _, _ => none
 | k + 1, x3, x6, x7, x8 => if x8 < x7 then (if 0 ≤ x8 then (if x8 < (x6.length : Int) then (if x3.length < 1759218604441 then (comptrollerlaw09_Theirs.l0 k (x3 ++ [(⟨(⟨(rd_T28 x6 x8).f0.f0, (rd_T28 x6 x8).f0.f1, (rd_T28 x6 x8).f0.f2, (rd_T28 x6 x8).f0.f3, (rd_T28 x6 x8).f0.f4⟩ : S44), (rd_T28 x6 x8).f1⟩ : S55)]) x6 x7 (wrap64 (x8 + 1))) else (none)) else (none)) else (none)) else (some x3)
def comptrollerlaw09_Theirs.f (k : Nat) (l0 : List (S28)) : Option ((List (S55))) := comptrollerlaw09_Theirs.l0 k ([] : List (S55)) l0 (l0.length : Int) 0
theorem comptrollerlaw09_Theirs.mono_l : ∀ k, (∀ y0 y1 y2 y3, LeO (comptrollerlaw09_Theirs.l0 k y0 y1 y2 y3) (comptrollerlaw09_Theirs.l0 (k + 1) y0 y1 y2 y3))
 | 0 => fun _ _ _ _ r h => by simp [comptrollerlaw09_Theirs.l0] at h
 | k + 1 => by
  have ih0 := comptrollerlaw09_Theirs.mono_l k
  ·intro y0 y1 y2 y3
   unfold comptrollerlaw09_Theirs.l0
   repeat' first
   | (with_reducible exact ih0 _ _ _ _)
   | (with_reducible exact LeO.refl _)
   | (with_reducible exact LeO.none _)
   | (with_reducible refine LeO.ite ?_ ?_)
   | (with_reducible refine LeO.bind ?_ (fun _ => ?_))
   | exact ih0 _ _ _ _
   | exact LeO.none _
   | refine LeO.ite ?_ ?_
   | refine LeO.bind ?_ (fun _ => ?_)
theorem comptrollerlaw09_Theirs.mono : ∀ a0 k, LeO (comptrollerlaw09_Theirs.f k a0) (comptrollerlaw09_Theirs.f (k + 1) a0) := by
 intro a0 k
 have ih0 := comptrollerlaw09_Theirs.mono_l k
 unfold comptrollerlaw09_Theirs.f
 repeat' first
   | (with_reducible exact ih0 _ _ _ _)
   | (with_reducible exact LeO.refl _)
   | (with_reducible exact LeO.none _)
   | (with_reducible refine LeO.ite ?_ ?_)
   | (with_reducible refine LeO.bind ?_ (fun _ => ?_))
   | exact ih0 _ _ _ _
   | exact LeO.none _
   | refine LeO.ite ?_ ?_
   | refine LeO.bind ?_ (fun _ => ?_)
set_option maxHeartbeats 8000000 in
set_option maxRecDepth 100000 in
theorem comptrollerlaw09_Theirs.calls (k : Nat) (A0 : Option Addr) (c0 : Nat) (l0 : List (S28)) (r : List (S55)) (w : World) (hr0 : Kd.C k28 w A0 l0.length l0) (hc0 : l0.length ≤ c0) (h : comptrollerlaw09_Theirs.f k l0 = some r) :
  Calls Try.prog 10 #[.slice A0 l0.length c0] w fun e w' => ∃ v0_ : Value, e = .returned (v0_) ∧ Kd.R k55 55 w' w.heap.size (fun _ => True) v0_ r ∧ Below w.heap.size w w' := by
 have hu28 := Try.underlying28
 have hu24 := Try.underlying24
 have hu55 := Try.underlying55
 have HR0 := Aside0.mk hr0
 have HC0 := Aside0.mk hc0
 clear hr0 hc0
 have HB := Aside0.mk (Below.refl w.heap.size w)
 have H : (comptrollerlaw09_Theirs.l0 k ([] : List (S55)) l0 (l0.length : Int) 0) = some r := h
 clear h
 have H' := Aside0.mk H
 clear H
 go_enter Try.func10, Try.ntmps10
 go_wp2
 go_loopg [3, 8] k (fun kq v3 v8 w' => ∃ (x3_1 : List (S55)) (x8_1 : Int), v8 = .int .i64 x8_1 ∧ Aside0 (comptrollerlaw09_Theirs.l0 kq x3_1 l0 (l0.length : Int) x8_1 = some r) ∧ Aside0 (kq ≤ k) ∧ Aside0 (Kd.R k55 55 w' w.heap.size (fun _ => True) v3 x3_1) ∧ Aside0 (Below w.heap.size w w'))
 case atStart => exact ⟨(([] : List (S55))), (0), rs_, H', ⟨Nat.le_refl _⟩, ⟨by first | exact Kd.R_nil _ _ _ _ _ | exact Kd.N_nil _ _ _ _ _ | exact Kd.V_nil _ _ _ _ _ | exact Kd.Q_nil _ _ _ _ _ | exact Kd.S_nil _ _ _ _ _⟩, ⟨bw⟩⟩
 case round =>
  clear H'
  try clear c1
  obtain ⟨x3_1, x8_1, rfl, HA, HK1, HO_3, HB⟩ := hrel
  cases gk with
  | zero => exact absurd HA.out (by simp [comptrollerlaw09_Theirs.l0])
  | succ k1 =>
   have H := HA.out
   clear HA
   simp only [comptrollerlaw09_Theirs.l0] at H
   by_cases c2 : x8_1 < (l0.length : Int)
   ·rw [if_pos c2] at H
    have c2b0 : decide (x8_1 < (l0.length : Int)) = true := decide_eq_true c2
    clear c2
    by_cases c3 : 0 ≤ x8_1
    ·rw [if_pos c3] at H
     have c3b0 : decide (0 ≤ x8_1) = true := decide_eq_true c3
     clear c3
     by_cases c4 : x8_1 < (l0.length : Int)
     ·rw [if_pos c4] at H
      have c4b0 : decide (x8_1 < (l0.length : Int)) = true := decide_eq_true c4
      clear c4
      by_cases c5 : x3_1.length < 1759218604441
      ·rw [if_pos c5] at H
       have LMc5 := Aside0.mk c5
       clear c5
       obtain ⟨y253, hy253⟩ : ∃ y_ : List (S55), y_ = (x3_1 ++ [(⟨(⟨(rd_T28 l0 x8_1).f0.f0, (rd_T28 l0 x8_1).f0.f1, (rd_T28 l0 x8_1).f0.f2, (rd_T28 l0 x8_1).f0.f3, (rd_T28 l0 x8_1).f0.f4⟩ : S44), (rd_T28 l0 x8_1).f1⟩ : S55)]) := ⟨_, rfl⟩
       replace H : (comptrollerlaw09_Theirs.l0 k1 y253 l0 (l0.length : Int) (wrap64 (x8_1 + 1))) = some r := by first | (rw [hy253]; with_reducible exact H) | (have H2_ := (Option.bind_some _ _).symm.trans H; rw [hy253]; with_reducible exact H2_) | (have H2_ := (Option.bind_some _ _).symm.trans H; with_reducible exact H2_) | with_reducible exact H | (rw [hy253]; exact H) | exact H
       have Ny253 := Aside0.mk hy253
       clear hy253
       have H' := Aside0.mk H
       clear H
       have p251 : 0 ≤ (x8_1 : Int) := of_decide_eq_true as_
       have q251 : x8_1 < (l0.length : Int) := of_decide_eq_true as_
       obtain ⟨ad251, e251, hx251_0, hx251_1, hx251_2, hx251_3, hx251_4, hx251_5⟩ := at_T28 HR0.out x8_1 p251 q251
       cases e251
       replace hx251_0 := cb HB hx251_0
       replace hx251_1 := cb HB hx251_1
       replace hx251_2 := cb HB hx251_2
       replace hx251_3 := cb HB hx251_3
       replace hx251_4 := cb HB hx251_4
       replace hx251_5 := cb HB hx251_5
       replace p251 := eq_true p251
       replace q251 := eq_true q251
       go_wp2_with (first | ((with_reducible refine gate_dst (N := 5) rfl ?_); refine box_event ?hg (N := 5) ?hd (cs := #[.string (⟨#[]⟩ : ByteArray), .string (⟨#[]⟩ : ByteArray), .string (⟨#[]⟩ : ByteArray), .string (⟨#[]⟩ : ByteArray), .int .i64 0, .int .i64 0]) (t := 28) ?hr ?_; (case hd => rfl); (case hg => rfl); (case hr => first | (go_simp; done) | (go_simp; rfl)); intro gb252 hg w6 hbox hb; have n0_ := Aside0.mk (Kd.R_below (kr HO_3) hb); have n1_ := Aside0.mk (below_step bw hb); have n2_ := Aside0.mk (hbox); have n3_ := Aside0.mk ((by rw [hg]; exact (below_size bw) : w.heap.size ≤ gb252)); have n4_ := Aside0.mk ((by rw [hg]; exact (below_size bw) : w.heap.size ≤ gb252)); clear HO_3; clear HB; have HO_3 := n0_; have HB := n1_; have BK252 := n2_; have GW252 := n3_; have GE252 := n4_; clear n0_ n1_ n2_ n3_ n4_; clear hb hbox hg; have hcz7_0 : w6.cell? ⟨gb252, 0, none⟩ = some (.string (⟨#[]⟩ : ByteArray)) := (blk_cell BK252.out 0).trans rfl; have hcz7_1 : w6.cell? ⟨gb252, 1, none⟩ = some (.string (⟨#[]⟩ : ByteArray)) := (blk_cell BK252.out 1).trans rfl; have hcz7_2 : w6.cell? ⟨gb252, 2, none⟩ = some (.string (⟨#[]⟩ : ByteArray)) := (blk_cell BK252.out 2).trans rfl; have hcz7_3 : w6.cell? ⟨gb252, 3, none⟩ = some (.string (⟨#[]⟩ : ByteArray)) := (blk_cell BK252.out 3).trans rfl; have hcz7_4 : w6.cell? ⟨gb252, 4, none⟩ = some (.int .i64 0) := (blk_cell BK252.out 4).trans rfl; have hcz7_5 : w6.cell? ⟨gb252, 5, none⟩ = some (.int .i64 0) := (blk_cell BK252.out 5).trans rfl; have hfz7_0 := blk_frozen BK252.out 0; have hfz7_1 := blk_frozen BK252.out 1; have hfz7_2 := blk_frozen BK252.out 2; have hfz7_3 := blk_frozen BK252.out 3; have hfz7_4 := blk_frozen BK252.out 4; have hfz7_5 := blk_frozen BK252.out 5) | ((with_reducible refine gate_builtin (b := .append) (xs := #[.tmp 12, .tmp 18]) rfl ?_); at_builtin; refine Kd.R_append k55 (w0 := w) w.heap.size rfl (.tmp 12) (.tmp 18) 29 55 (.agg #[(.string ⟨#[]⟩), (.string ⟨#[]⟩), (.string ⟨#[]⟩), (.string ⟨#[]⟩), (.int .i64 0), (.int .i64 0)]) 80 rfl Try.underlying29 info55 rfl (by decide) (by omega) u3 x3_1 (⟨(⟨(rd_T28 l0 x8_1).f0.f0, (rd_T28 l0 x8_1).f0.f1, (rd_T28 l0 x8_1).f0.f2, (rd_T28 l0 x8_1).f0.f3, (rd_T28 l0 x8_1).f0.f4⟩ : S44), (rd_T28 l0 x8_1).f1⟩ : S55) [.string ((rd_T28 l0 x8_1).f0.f0), .string ((rd_T28 l0 x8_1).f0.f1), .string ((rd_T28 l0 x8_1).f0.f2), .string ((rd_T28 l0 x8_1).f0.f3), .int .i64 ((rd_T28 l0 x8_1).f0.f4), .int .i64 ((rd_T28 l0 x8_1).f1)] (fun _ => True) (fun _ => False) rfl (by first | (go_simp; done) | (go_simp; rfl)) ?aP (fun _ hk => hk.elim) ?aF ?aO ?aB ?aS ?aL ?_; (case aP => exact k55_mkM _ _ _ (⟨(⟨(rd_T28 l0 x8_1).f0.f0, (rd_T28 l0 x8_1).f0.f1, (rd_T28 l0 x8_1).f0.f2, (rd_T28 l0 x8_1).f0.f3, (rd_T28 l0 x8_1).f0.f4⟩ : S44), (rd_T28 l0 x8_1).f1⟩ : S55)); (case aB => exact (by repeat (first | (with_reducible first | exact HB.out | apply below_alloc | apply pw_below_drewN | apply below_drew1 | refine below_set ?_ GE252.out) | exact HB.out))); (case aF => exact (fun _ _ => trivial)); (case aO => exact (by (with_reducible repeat (first | apply Kd.R_alloc | apply Kd.R_drewN | apply Kd.R_drew)); exact Kd.R_mono (Kd.R_far (p := ⟨gb252, 5, none⟩) (Kd.R_far (p := ⟨gb252, 4, none⟩) (Kd.R_far (p := ⟨gb252, 3, none⟩) (Kd.R_far (p := ⟨gb252, 2, none⟩) (Kd.R_far (p := ⟨gb252, 1, none⟩) (Kd.R_far (p := ⟨gb252, 0, none⟩) (Kd.R_types HO_3.out BK252.out (by decide)) (fun _ hk => hk.2) (.string ((rd_T28 l0 x8_1).f0.f0))) (fun _ hk => hk.2) (.string ((rd_T28 l0 x8_1).f0.f1))) (fun _ hk => hk.2) (.string ((rd_T28 l0 x8_1).f0.f2))) (fun _ hk => hk.2) (.string ((rd_T28 l0 x8_1).f0.f3))) (fun _ hk => hk.2) (.int .i64 ((rd_T28 l0 x8_1).f0.f4))) (fun _ hk => hk.2) (.int .i64 ((rd_T28 l0 x8_1).f1))) (fun _ hk => trivial))); (case aS => exact (below_size (by repeat (first | (with_reducible first | exact HB.out | apply below_alloc | apply pw_below_drewN | apply below_drew1 | refine below_set ?_ GE252.out) | exact HB.out)))); (case aL => have := LMc5.out; omega); intro v254 w8 ho hb hg hat; rw [← Ny253.out] at ho; have n0_ := Aside0.mk (blk_grown (g := gb252) (o := .cells #[.string ((rd_T28 l0 x8_1).f0.f0), .string ((rd_T28 l0 x8_1).f0.f1), .string ((rd_T28 l0 x8_1).f0.f2), .string ((rd_T28 l0 x8_1).f0.f3), .int .i64 ((rd_T28 l0 x8_1).f0.f4), .int .i64 ((rd_T28 l0 x8_1).f1)] 28 (0, 0)) (by (with_reducible repeat (first | refine blk_drewN ?_ _ | refine blk_drew ?_ | refine blk_alloc ?_ _)); refine blk_put (cs := #[.string ((rd_T28 l0 x8_1).f0.f0), .string ((rd_T28 l0 x8_1).f0.f1), .string ((rd_T28 l0 x8_1).f0.f2), .string ((rd_T28 l0 x8_1).f0.f3), .int .i64 ((rd_T28 l0 x8_1).f0.f4), .int .i64 0]) ?_ 5 _ rfl; (with_reducible repeat (first | refine blk_drewN ?_ _ | refine blk_drew ?_ | refine blk_alloc ?_ _)); refine blk_put (cs := #[.string ((rd_T28 l0 x8_1).f0.f0), .string ((rd_T28 l0 x8_1).f0.f1), .string ((rd_T28 l0 x8_1).f0.f2), .string ((rd_T28 l0 x8_1).f0.f3), .int .i64 0, .int .i64 0]) ?_ 4 _ rfl; (with_reducible repeat (first | refine blk_drewN ?_ _ | refine blk_drew ?_ | refine blk_alloc ?_ _)); refine blk_put (cs := #[.string ((rd_T28 l0 x8_1).f0.f0), .string ((rd_T28 l0 x8_1).f0.f1), .string ((rd_T28 l0 x8_1).f0.f2), .string (⟨#[]⟩ : ByteArray), .int .i64 0, .int .i64 0]) ?_ 3 _ rfl; (with_reducible repeat (first | refine blk_drewN ?_ _ | refine blk_drew ?_ | refine blk_alloc ?_ _)); refine blk_put (cs := #[.string ((rd_T28 l0 x8_1).f0.f0), .string ((rd_T28 l0 x8_1).f0.f1), .string (⟨#[]⟩ : ByteArray), .string (⟨#[]⟩ : ByteArray), .int .i64 0, .int .i64 0]) ?_ 2 _ rfl; (with_reducible repeat (first | refine blk_drewN ?_ _ | refine blk_drew ?_ | refine blk_alloc ?_ _)); refine blk_put (cs := #[.string ((rd_T28 l0 x8_1).f0.f0), .string (⟨#[]⟩ : ByteArray), .string (⟨#[]⟩ : ByteArray), .string (⟨#[]⟩ : ByteArray), .int .i64 0, .int .i64 0]) ?_ 1 _ rfl; (with_reducible repeat (first | refine blk_drewN ?_ _ | refine blk_drew ?_ | refine blk_alloc ?_ _)); refine blk_put (cs := #[.string (⟨#[]⟩ : ByteArray), .string (⟨#[]⟩ : ByteArray), .string (⟨#[]⟩ : ByteArray), .string (⟨#[]⟩ : ByteArray), .int .i64 0, .int .i64 0]) ?_ 0 _ rfl; (with_reducible repeat (first | refine blk_drewN ?_ _ | refine blk_drew ?_ | refine blk_alloc ?_ _)); exact BK252.out) hg (Kd.R_ne HO_3.out BK252.out (by decide))); have n1_ := Aside0.mk (hb); have n2_ := Aside0.mk (ho); clear BK252; clear HB; clear HO_3; have BK252 := n0_; have HB := n1_; have HO255 := n2_; clear n0_ n1_ n2_; clear ho hb hg hat))
       go_roundg k1
       case measure => have := HK1.out; omega
       case rel => exact ⟨(y253), (wrap64 (x8_1 + 1)), rs_, H', ⟨by have := HK1.out; omega⟩, ⟨by (with_reducible repeat (first | apply Kd.R_alloc | apply Kd.R_drewN | apply Kd.R_drew)); exact HO255.out⟩, ⟨by repeat (first | (with_reducible first | exact HB.out | apply below_alloc | apply pw_below_drewN | apply below_drew1 | refine below_set ?_ GE252.out) | exact HB.out)⟩⟩
      ·rw [if_neg c5] at H
       exact absurd H (by simp)
     ·rw [if_neg c4] at H
      exact absurd H (by simp)
    ·rw [if_neg c3] at H
     exact absurd H (by simp)
   ·rw [if_neg c2] at H
    have c2b0 : decide (x8_1 < (l0.length : Int)) = false := decide_eq_false c2
    clear c2
    obtain rfl := Option.some.inj H
    go_wp2
    go_ret
    exact ⟨_, by first | rfl | (simp [errW_none, errW_some] <;> rfl) | (simp [*, errW_none, errW_some] <;> rfl), by (with_reducible repeat (first | apply Kd.R_alloc | apply Kd.R_drewN | apply Kd.R_drew)); exact HO_3.out, bw⟩
/-! ### comptrollerlaw09_Ours: function 15 -/
def comptrollerlaw09_Ours.l0 : Nat → List (S28) → List (S55) → Int → Int → Option ((List (S28)))
 | 0, _, _, _, _ => none
 | k + 1, x3, x6, x7, x8 => if x8 < x7 then (if 0 ≤ x8 then (if x8 < (x6.length : Int) then (if x3.length < 1759218604441 then (comptrollerlaw09_Ours.l0 k (x3 ++ [(⟨(⟨(rd_T55 x6 x8).f0.f0, (rd_T55 x6 x8).f0.f1, (rd_T55 x6 x8).f0.f2, (rd_T55 x6 x8).f0.f3, (rd_T55 x6 x8).f0.f4⟩ : S24), (rd_T55 x6 x8).f1⟩ : S28)]) x6 x7 (wrap64 (x8 + 1))) else (none)) else (none)) else (none)) else (some x3)
def comptrollerlaw09_Ours.f (k : Nat) (l0 : List (S55)) : Option ((List (S28))) := comptrollerlaw09_Ours.l0 k ([] : List (S28)) l0 (l0.length : Int) 0
theorem comptrollerlaw09_Ours.mono_l : ∀ k, (∀ y0 y1 y2 y3, LeO (comptrollerlaw09_Ours.l0 k y0 y1 y2 y3) (comptrollerlaw09_Ours.l0 (k + 1) y0 y1 y2 y3))
 | 0 => fun _ _ _ _ r h => by simp [comptrollerlaw09_Ours.l0] at h
 | k + 1 => by
  have ih0 := comptrollerlaw09_Ours.mono_l k
  ·intro y0 y1 y2 y3
   unfold comptrollerlaw09_Ours.l0
   repeat' first
   | (with_reducible exact ih0 _ _ _ _)
   | (with_reducible exact LeO.refl _)
   | (with_reducible exact LeO.none _)
   | (with_reducible refine LeO.ite ?_ ?_)
   | (with_reducible refine LeO.bind ?_ (fun _ => ?_))
   | exact ih0 _ _ _ _
   | exact LeO.none _
   | refine LeO.ite ?_ ?_
   | refine LeO.bind ?_ (fun _ => ?_)
theorem comptrollerlaw09_Ours.mono : ∀ a0 k, LeO (comptrollerlaw09_Ours.f k a0) (comptrollerlaw09_Ours.f (k + 1) a0) := by
 intro a0 k
 have ih0 := comptrollerlaw09_Ours.mono_l k
 unfold comptrollerlaw09_Ours.f
 repeat' first
   | (with_reducible exact ih0 _ _ _ _)
   | (with_reducible exact LeO.refl _)
   | (with_reducible exact LeO.none _)
   | (with_reducible refine LeO.ite ?_ ?_)
   | (with_reducible refine LeO.bind ?_ (fun _ => ?_))
   | exact ih0 _ _ _ _
   | exact LeO.none _
   | refine LeO.ite ?_ ?_
   | refine LeO.bind ?_ (fun _ => ?_)
set_option maxHeartbeats 8000000 in
set_option maxRecDepth 100000 in
theorem comptrollerlaw09_Ours.calls (k : Nat) (A0 : Option Addr) (c0 : Nat) (l0 : List (S55)) (r : List (S28)) (w : World) (hr0 : Kd.C k55 w A0 l0.length l0) (hc0 : l0.length ≤ c0) (h : comptrollerlaw09_Ours.f k l0 = some r) :
  Calls Try.prog 15 #[.slice A0 l0.length c0] w fun e w' => ∃ v0_ : Value, e = .returned (v0_) ∧ Kd.R k28 28 w' w.heap.size (fun _ => True) v0_ r ∧ Below w.heap.size w w' := by
 have hu55 := Try.underlying55
 have hu44 := Try.underlying44
 have hu28 := Try.underlying28
 have HR0 := Aside0.mk hr0
 have HC0 := Aside0.mk hc0
 clear hr0 hc0
 have HB := Aside0.mk (Below.refl w.heap.size w)
 have H : (comptrollerlaw09_Ours.l0 k ([] : List (S28)) l0 (l0.length : Int) 0) = some r := h
 clear h
 have H' := Aside0.mk H
 clear H
 go_enter Try.func15, Try.ntmps15
 go_wp2
 go_loopg [3, 8] k (fun kq v3 v8 w' => ∃ (x3_1 : List (S28)) (x8_1 : Int), v8 = .int .i64 x8_1 ∧ Aside0 (comptrollerlaw09_Ours.l0 kq x3_1 l0 (l0.length : Int) x8_1 = some r) ∧ Aside0 (kq ≤ k) ∧ Aside0 (Kd.R k28 28 w' w.heap.size (fun _ => True) v3 x3_1) ∧ Aside0 (Below w.heap.size w w'))
 case atStart => exact ⟨(([] : List (S28))), (0), rs_, H', ⟨Nat.le_refl _⟩, ⟨by first | exact Kd.R_nil _ _ _ _ _ | exact Kd.N_nil _ _ _ _ _ | exact Kd.V_nil _ _ _ _ _ | exact Kd.Q_nil _ _ _ _ _ | exact Kd.S_nil _ _ _ _ _⟩, ⟨bw⟩⟩
 case round =>
  clear H'
  try clear c1
  obtain ⟨x3_1, x8_1, rfl, HA, HK1, HO_3, HB⟩ := hrel
  cases gk with
  | zero => exact absurd HA.out (by simp [comptrollerlaw09_Ours.l0])
  | succ k1 =>
   have H := HA.out
   clear HA
   simp only [comptrollerlaw09_Ours.l0] at H
   by_cases c2 : x8_1 < (l0.length : Int)
   ·rw [if_pos c2] at H
    have c2b0 : decide (x8_1 < (l0.length : Int)) = true := decide_eq_true c2
    clear c2
    by_cases c3 : 0 ≤ x8_1
    ·rw [if_pos c3] at H
     have c3b0 : decide (0 ≤ x8_1) = true := decide_eq_true c3
     clear c3
     by_cases c4 : x8_1 < (l0.length : Int)
     ·rw [if_pos c4] at H
      have c4b0 : decide (x8_1 < (l0.length : Int)) = true := decide_eq_true c4
      clear c4
      by_cases c5 : x3_1.length < 1759218604441
      ·rw [if_pos c5] at H
       have LMc5 := Aside0.mk c5
       clear c5
       obtain ⟨y358, hy358⟩ : ∃ y_ : List (S28), y_ = (x3_1 ++ [(⟨(⟨(rd_T55 l0 x8_1).f0.f0, (rd_T55 l0 x8_1).f0.f1, (rd_T55 l0 x8_1).f0.f2, (rd_T55 l0 x8_1).f0.f3, (rd_T55 l0 x8_1).f0.f4⟩ : S24), (rd_T55 l0 x8_1).f1⟩ : S28)]) := ⟨_, rfl⟩
       replace H : (comptrollerlaw09_Ours.l0 k1 y358 l0 (l0.length : Int) (wrap64 (x8_1 + 1))) = some r := by first | (rw [hy358]; with_reducible exact H) | (have H2_ := (Option.bind_some _ _).symm.trans H; rw [hy358]; with_reducible exact H2_) | (have H2_ := (Option.bind_some _ _).symm.trans H; with_reducible exact H2_) | with_reducible exact H | (rw [hy358]; exact H) | exact H
       have Ny358 := Aside0.mk hy358
       clear hy358
       have H' := Aside0.mk H
       clear H
       have p356 : 0 ≤ (x8_1 : Int) := of_decide_eq_true as_
       have q356 : x8_1 < (l0.length : Int) := of_decide_eq_true as_
       obtain ⟨ad356, e356, hx356_0, hx356_1, hx356_2, hx356_3, hx356_4, hx356_5⟩ := at_T55 HR0.out x8_1 p356 q356
       cases e356
       replace hx356_0 := cb HB hx356_0
       replace hx356_1 := cb HB hx356_1
       replace hx356_2 := cb HB hx356_2
       replace hx356_3 := cb HB hx356_3
       replace hx356_4 := cb HB hx356_4
       replace hx356_5 := cb HB hx356_5
       replace p356 := eq_true p356
       replace q356 := eq_true q356
       go_wp2_with (first | ((with_reducible refine gate_dst (N := 5) rfl ?_); refine box_event ?hg (N := 5) ?hd (cs := #[.string (⟨#[]⟩ : ByteArray), .string (⟨#[]⟩ : ByteArray), .string (⟨#[]⟩ : ByteArray), .string (⟨#[]⟩ : ByteArray), .int .i64 0, .int .i64 0]) (t := 55) ?hr ?_; (case hd => rfl); (case hg => rfl); (case hr => first | (go_simp; done) | (go_simp; rfl)); intro gb357 hg w6 hbox hb; have n0_ := Aside0.mk (Kd.R_below (kr HO_3) hb); have n1_ := Aside0.mk (below_step bw hb); have n2_ := Aside0.mk (hbox); have n3_ := Aside0.mk ((by rw [hg]; exact (below_size bw) : w.heap.size ≤ gb357)); have n4_ := Aside0.mk ((by rw [hg]; exact (below_size bw) : w.heap.size ≤ gb357)); clear HO_3; clear HB; have HO_3 := n0_; have HB := n1_; have BK357 := n2_; have GW357 := n3_; have GE357 := n4_; clear n0_ n1_ n2_ n3_ n4_; clear hb hbox hg; have hcz7_0 : w6.cell? ⟨gb357, 0, none⟩ = some (.string (⟨#[]⟩ : ByteArray)) := (blk_cell BK357.out 0).trans rfl; have hcz7_1 : w6.cell? ⟨gb357, 1, none⟩ = some (.string (⟨#[]⟩ : ByteArray)) := (blk_cell BK357.out 1).trans rfl; have hcz7_2 : w6.cell? ⟨gb357, 2, none⟩ = some (.string (⟨#[]⟩ : ByteArray)) := (blk_cell BK357.out 2).trans rfl; have hcz7_3 : w6.cell? ⟨gb357, 3, none⟩ = some (.string (⟨#[]⟩ : ByteArray)) := (blk_cell BK357.out 3).trans rfl; have hcz7_4 : w6.cell? ⟨gb357, 4, none⟩ = some (.int .i64 0) := (blk_cell BK357.out 4).trans rfl; have hcz7_5 : w6.cell? ⟨gb357, 5, none⟩ = some (.int .i64 0) := (blk_cell BK357.out 5).trans rfl; have hfz7_0 := blk_frozen BK357.out 0; have hfz7_1 := blk_frozen BK357.out 1; have hfz7_2 := blk_frozen BK357.out 2; have hfz7_3 := blk_frozen BK357.out 3; have hfz7_4 := blk_frozen BK357.out 4; have hfz7_5 := blk_frozen BK357.out 5) | ((with_reducible refine gate_builtin (b := .append) (xs := #[.tmp 12, .tmp 18]) rfl ?_); at_builtin; refine Kd.R_append k28 (w0 := w) w.heap.size rfl (.tmp 12) (.tmp 18) 22 28 (.agg #[(.string ⟨#[]⟩), (.string ⟨#[]⟩), (.string ⟨#[]⟩), (.string ⟨#[]⟩), (.int .i64 0), (.int .i64 0)]) 80 rfl Try.underlying22 info28 rfl (by decide) (by omega) u3 x3_1 (⟨(⟨(rd_T55 l0 x8_1).f0.f0, (rd_T55 l0 x8_1).f0.f1, (rd_T55 l0 x8_1).f0.f2, (rd_T55 l0 x8_1).f0.f3, (rd_T55 l0 x8_1).f0.f4⟩ : S24), (rd_T55 l0 x8_1).f1⟩ : S28) [.string ((rd_T55 l0 x8_1).f0.f0), .string ((rd_T55 l0 x8_1).f0.f1), .string ((rd_T55 l0 x8_1).f0.f2), .string ((rd_T55 l0 x8_1).f0.f3), .int .i64 ((rd_T55 l0 x8_1).f0.f4), .int .i64 ((rd_T55 l0 x8_1).f1)] (fun _ => True) (fun _ => False) rfl (by first | (go_simp; done) | (go_simp; rfl)) ?aP (fun _ hk => hk.elim) ?aF ?aO ?aB ?aS ?aL ?_; (case aP => exact k28_mkM _ _ _ (⟨(⟨(rd_T55 l0 x8_1).f0.f0, (rd_T55 l0 x8_1).f0.f1, (rd_T55 l0 x8_1).f0.f2, (rd_T55 l0 x8_1).f0.f3, (rd_T55 l0 x8_1).f0.f4⟩ : S24), (rd_T55 l0 x8_1).f1⟩ : S28)); (case aB => exact (by repeat (first | (with_reducible first | exact HB.out | apply below_alloc | apply pw_below_drewN | apply below_drew1 | refine below_set ?_ GE357.out) | exact HB.out))); (case aF => exact (fun _ _ => trivial)); (case aO => exact (by (with_reducible repeat (first | apply Kd.R_alloc | apply Kd.R_drewN | apply Kd.R_drew)); exact Kd.R_mono (Kd.R_far (p := ⟨gb357, 5, none⟩) (Kd.R_far (p := ⟨gb357, 4, none⟩) (Kd.R_far (p := ⟨gb357, 3, none⟩) (Kd.R_far (p := ⟨gb357, 2, none⟩) (Kd.R_far (p := ⟨gb357, 1, none⟩) (Kd.R_far (p := ⟨gb357, 0, none⟩) (Kd.R_types HO_3.out BK357.out (by decide)) (fun _ hk => hk.2) (.string ((rd_T55 l0 x8_1).f0.f0))) (fun _ hk => hk.2) (.string ((rd_T55 l0 x8_1).f0.f1))) (fun _ hk => hk.2) (.string ((rd_T55 l0 x8_1).f0.f2))) (fun _ hk => hk.2) (.string ((rd_T55 l0 x8_1).f0.f3))) (fun _ hk => hk.2) (.int .i64 ((rd_T55 l0 x8_1).f0.f4))) (fun _ hk => hk.2) (.int .i64 ((rd_T55 l0 x8_1).f1))) (fun _ hk => trivial))); (case aS => exact (below_size (by repeat (first | (with_reducible first | exact HB.out | apply below_alloc | apply pw_below_drewN | apply below_drew1 | refine below_set ?_ GE357.out) | exact HB.out)))); (case aL => have := LMc5.out; omega); intro v359 w8 ho hb hg hat; rw [← Ny358.out] at ho; have n0_ := Aside0.mk (blk_grown (g := gb357) (o := .cells #[.string ((rd_T55 l0 x8_1).f0.f0), .string ((rd_T55 l0 x8_1).f0.f1), .string ((rd_T55 l0 x8_1).f0.f2), .string ((rd_T55 l0 x8_1).f0.f3), .int .i64 ((rd_T55 l0 x8_1).f0.f4), .int .i64 ((rd_T55 l0 x8_1).f1)] 55 (0, 0)) (by (with_reducible repeat (first | refine blk_drewN ?_ _ | refine blk_drew ?_ | refine blk_alloc ?_ _)); refine blk_put (cs := #[.string ((rd_T55 l0 x8_1).f0.f0), .string ((rd_T55 l0 x8_1).f0.f1), .string ((rd_T55 l0 x8_1).f0.f2), .string ((rd_T55 l0 x8_1).f0.f3), .int .i64 ((rd_T55 l0 x8_1).f0.f4), .int .i64 0]) ?_ 5 _ rfl; (with_reducible repeat (first | refine blk_drewN ?_ _ | refine blk_drew ?_ | refine blk_alloc ?_ _)); refine blk_put (cs := #[.string ((rd_T55 l0 x8_1).f0.f0), .string ((rd_T55 l0 x8_1).f0.f1), .string ((rd_T55 l0 x8_1).f0.f2), .string ((rd_T55 l0 x8_1).f0.f3), .int .i64 0, .int .i64 0]) ?_ 4 _ rfl; (with_reducible repeat (first | refine blk_drewN ?_ _ | refine blk_drew ?_ | refine blk_alloc ?_ _)); refine blk_put (cs := #[.string ((rd_T55 l0 x8_1).f0.f0), .string ((rd_T55 l0 x8_1).f0.f1), .string ((rd_T55 l0 x8_1).f0.f2), .string (⟨#[]⟩ : ByteArray), .int .i64 0, .int .i64 0]) ?_ 3 _ rfl; (with_reducible repeat (first | refine blk_drewN ?_ _ | refine blk_drew ?_ | refine blk_alloc ?_ _)); refine blk_put (cs := #[.string ((rd_T55 l0 x8_1).f0.f0), .string ((rd_T55 l0 x8_1).f0.f1), .string (⟨#[]⟩ : ByteArray), .string (⟨#[]⟩ : ByteArray), .int .i64 0, .int .i64 0]) ?_ 2 _ rfl; (with_reducible repeat (first | refine blk_drewN ?_ _ | refine blk_drew ?_ | refine blk_alloc ?_ _)); refine blk_put (cs := #[.string ((rd_T55 l0 x8_1).f0.f0), .string (⟨#[]⟩ : ByteArray), .string (⟨#[]⟩ : ByteArray), .string (⟨#[]⟩ : ByteArray), .int .i64 0, .int .i64 0]) ?_ 1 _ rfl; (with_reducible repeat (first | refine blk_drewN ?_ _ | refine blk_drew ?_ | refine blk_alloc ?_ _)); refine blk_put (cs := #[.string (⟨#[]⟩ : ByteArray), .string (⟨#[]⟩ : ByteArray), .string (⟨#[]⟩ : ByteArray), .string (⟨#[]⟩ : ByteArray), .int .i64 0, .int .i64 0]) ?_ 0 _ rfl; (with_reducible repeat (first | refine blk_drewN ?_ _ | refine blk_drew ?_ | refine blk_alloc ?_ _)); exact BK357.out) hg (Kd.R_ne HO_3.out BK357.out (by decide))); have n1_ := Aside0.mk (hb); have n2_ := Aside0.mk (ho); clear BK357; clear HB; clear HO_3; have BK357 := n0_; have HB := n1_; have HO360 := n2_; clear n0_ n1_ n2_; clear ho hb hg hat))
       go_roundg k1
       case measure => have := HK1.out; omega
       case rel => exact ⟨(y358), (wrap64 (x8_1 + 1)), rs_, H', ⟨by have := HK1.out; omega⟩, ⟨by (with_reducible repeat (first | apply Kd.R_alloc | apply Kd.R_drewN | apply Kd.R_drew)); exact HO360.out⟩, ⟨by repeat (first | (with_reducible first | exact HB.out | apply below_alloc | apply pw_below_drewN | apply below_drew1 | refine below_set ?_ GE357.out) | exact HB.out)⟩⟩
      ·rw [if_neg c5] at H
       exact absurd H (by simp)
     ·rw [if_neg c4] at H
      exact absurd H (by simp)
    ·rw [if_neg c3] at H
     exact absurd H (by simp)
   ·rw [if_neg c2] at H
    have c2b0 : decide (x8_1 < (l0.length : Int)) = false := decide_eq_false c2
    clear c2
    obtain rfl := Option.some.inj H
    go_wp2
    go_ret
    exact ⟨_, by first | rfl | (simp [errW_none, errW_some] <;> rfl) | (simp [*, errW_none, errW_some] <;> rfl), by (with_reducible repeat (first | apply Kd.R_alloc | apply Kd.R_drewN | apply Kd.R_drew)); exact HO_3.out, bw⟩
theorem eqA24 (d : Nat) (w : World) (x0 y0 : ByteArray) (x1 y1 : ByteArray) (x2 y2 : ByteArray) (x3 y3 : ByteArray) (x4 y4 : Int) :
  (Op.equalIn (d + 2) 24 (.agg #[.string x0, .string x1, .string x2, .string x3, .int .i64 x4]) (.agg #[.string y0, .string y1, .string y2, .string y3, .int .i64 y4])).run Try.prog w = .ok (x0.toList == y0.toList && (x1.toList == y1.toList && (x2.toList == y2.toList && (x3.toList == y3.toList && (x4 == y4))))) w := by
 refine eqA_of Try.underlying24 (by kernel_rfl) ?_
 refine eqf_cons (by rfl) (by go_simp; rfl) (by go_simp; rfl) (by go_simp) ?_
 refine eqf_cons (by rfl) (by go_simp; rfl) (by go_simp; rfl) (by go_simp) ?_
 refine eqf_cons (by rfl) (by go_simp; rfl) (by go_simp; rfl) (by go_simp) ?_
 refine eqf_cons (by rfl) (by go_simp; rfl) (by go_simp; rfl) (by go_simp) ?_
 exact eqf_last (by rfl) (by go_simp; rfl) (by go_simp; rfl) (by go_simp)
theorem eqA28 (d : Nat) (w : World) (x0 y0 : ByteArray) (x1 y1 : ByteArray) (x2 y2 : ByteArray) (x3 y3 : ByteArray) (x4 y4 : Int) (x5 y5 : Int) :
  (Op.equalIn (d + 3) 28 (.agg #[.string x0, .string x1, .string x2, .string x3, .int .i64 x4, .int .i64 x5]) (.agg #[.string y0, .string y1, .string y2, .string y3, .int .i64 y4, .int .i64 y5])).run Try.prog w = .ok ((x0.toList == y0.toList && (x1.toList == y1.toList && (x2.toList == y2.toList && (x3.toList == y3.toList && (x4 == y4))))) && (x5 == y5)) w := by
 refine eqA_of Try.underlying28 (by kernel_rfl) ?_
 refine eqf_cons (by rfl) (by go_simp) (by go_simp) (eqA24 (d + 0) w _ _ _ _ _ _ _ _ _ _) ?_
 exact eqf_last (by rfl) (by go_simp; rfl) (by go_simp; rfl) (by go_simp)
end Go.Proofs.Ytdckeflggcefbaa.Y
namespace Go.Proofs.Ytdckeflggcefbaa.Y
open Go.RowKit Go.Proofs.YtdckeflggcefbaaW.PrintWords Go.Proofs.YtdckeflggcefbaaW.PrintLast Go.Proofs.YtdckeflggcefbaaW.PrintMore
attribute [local go_sem] max2_int min2_int max_two min_two max_three min_three max_four min_four   -- for this text's walks alone
set_option linter.unusedVariables false
set_option linter.unusedSimpArgs false

attribute [local go_sem high] eqA28
/-! ### comptrollerref09_Same: function 14 -/
def comptrollerref09_Same.l0 : Nat → List (S28) → List (S28) → Int → Option (Bool)
 | 0, _, _, _ => none
 | k + 1, x0, x1, x5 => if x5 < (x0.length : Int) then (if 0 ≤ x5 then (if x5 < (x1.length : Int) then (if ((!((((rd_T28 x0 x5).f0.f0).toList) == (((rd_T28 x1 x5).f0.f0).toList)) || (!((((rd_T28 x0 x5).f0.f1).toList) == (((rd_T28 x1 x5).f0.f1).toList)) || (!((((rd_T28 x0 x5).f0.f2).toList) == (((rd_T28 x1 x5).f0.f2).toList)) || (!((((rd_T28 x0 x5).f0.f3).toList) == (((rd_T28 x1 x5).f0.f3).toList)) || (!(((rd_T28 x0 x5).f0.f4) == ((rd_T28 x1 x5).f0.f4))))))) || (!(((rd_T28 x0 x5).f1) == ((rd_T28 x1 x5).f1)))) = true then (some false) else (comptrollerref09_Same.l0 k x0 x1 (wrap64 (x5 + 1)))) else (none)) else (none)) else (some true)
def comptrollerref09_Same.f (k : Nat) (l0 : List (S28)) (l1 : List (S28)) : Option (Bool) := if (l0.length : Int) = (l1.length : Int) then (comptrollerref09_Same.l0 k l0 l1 0) else (some false)
theorem comptrollerref09_Same.mono_l : ∀ k, (∀ y0 y1 y2, LeO (comptrollerref09_Same.l0 k y0 y1 y2) (comptrollerref09_Same.l0 (k + 1) y0 y1 y2))
 | 0 => fun _ _ _ r h => by simp [comptrollerref09_Same.l0] at h
 | k + 1 => by
  have ih0 := comptrollerref09_Same.mono_l k
  ·intro y0 y1 y2
   unfold comptrollerref09_Same.l0
   repeat' first
   | (with_reducible exact ih0 _ _ _)
   | (with_reducible exact LeO.refl _)
   | (with_reducible exact LeO.none _)
   | (with_reducible refine LeO.ite ?_ ?_)
   | (with_reducible refine LeO.bind ?_ (fun _ => ?_))
   | exact ih0 _ _ _
   | exact LeO.none _
   | refine LeO.ite ?_ ?_
   | refine LeO.bind ?_ (fun _ => ?_)
theorem comptrollerref09_Same.mono : ∀ a0 a1 k, LeO (comptrollerref09_Same.f k a0 a1) (comptrollerref09_Same.f (k + 1) a0 a1) := by
 intro a0 a1 k
 have ih0 := comptrollerref09_Same.mono_l k
 unfold comptrollerref09_Same.f
 repeat' first
   | (with_reducible exact ih0 _ _ _)
   | (with_reducible exact LeO.refl _)
   | (with_reducible exact LeO.none _)
   | (with_reducible refine LeO.ite ?_ ?_)
   | (with_reducible refine LeO.bind ?_ (fun _ => ?_))
   | exact ih0 _ _ _
   | exact LeO.none _
   | refine LeO.ite ?_ ?_
   | refine LeO.bind ?_ (fun _ => ?_)
set_option maxHeartbeats 8000000 in
set_option maxRecDepth 100000 in
theorem comptrollerref09_Same.calls (k : Nat) (A0 : Option Addr) (c0 : Nat) (l0 : List (S28)) (A1 : Option Addr) (c1 : Nat) (l1 : List (S28)) (r : Bool) (w : World) (hr0 : Kd.C k28 w A0 l0.length l0) (hc0 : l0.length ≤ c0) (hr1 : Kd.C k28 w A1 l1.length l1) (hc1 : l1.length ≤ c1) (h : comptrollerref09_Same.f k l0 l1 = some r) :
  Calls Try.prog 14 #[.slice A0 l0.length c0, .slice A1 l1.length c1] w fun e w' => e = .returned (.bool r) ∧ Drawn0 w w' := by
 have hu28 := Try.underlying28
 have HR0 := Aside0.mk hr0
 have HC0 := Aside0.mk hc0
 clear hr0 hc0
 have HR1 := Aside0.mk hr1
 have HC1 := Aside0.mk hc1
 clear hr1 hc1
 have H : (if (l0.length : Int) = (l1.length : Int) then (comptrollerref09_Same.l0 k l0 l1 0) else (some false)) = some r := h
 clear h
 by_cases c3 : (l0.length : Int) = (l1.length : Int)
 ·rw [if_pos c3] at H
  have c3b0 : ((l0.length : Int) == (l1.length : Int)) = true := beq_iff_eq.mpr c3
  have c3b1 : ((l0.length : Int) != (l1.length : Int)) = false := bne_eq_false_iff_eq.mpr c3
  have c3b2 : (l0.length == l1.length) = true := by first | simpa using c3 | (simp at c3 ⊢; omega)
  clear c3
  have H' := Aside0.mk H
  clear H
  go_enter Try.func14, Try.ntmps14
  go_wp2
  repeat (go_quiet (fail); try go_wp2)
  go_loopg [5] k (fun kq v5 w' => ∃ (x5_1 : Int), v5 = .int .i64 x5_1 ∧ Aside0 (comptrollerref09_Same.l0 kq l0 l1 x5_1 = some r) ∧ Aside0 (kq ≤ k) ∧ Drawn0 w w')
  case atStart => exact ⟨(0), rs_, H', ⟨Nat.le_refl _⟩, by repeat (first | exact Drawn0.refl _ | apply Drawn0.step)⟩
  case round =>
   clear H'
   try clear c1
   try clear p2
   try clear c3
   try clear c3b0
   try clear c3b1
   try clear c3b2
   obtain ⟨x5_1, rfl, HA, HK1, ⟨m1, rfl⟩⟩ := hrel
   cases gk with
   | zero => exact absurd HA.out (by simp [comptrollerref09_Same.l0])
   | succ k1 =>
    have H := HA.out
    clear HA
    simp only [comptrollerref09_Same.l0] at H
    by_cases c4 : x5_1 < (l0.length : Int)
    ·rw [if_pos c4] at H
     have c4b0 : decide (x5_1 < (l0.length : Int)) = true := decide_eq_true c4
     clear c4
     by_cases c5 : 0 ≤ x5_1
     ·rw [if_pos c5] at H
      have c5b0 : decide (0 ≤ x5_1) = true := decide_eq_true c5
      clear c5
      by_cases c6 : x5_1 < (l1.length : Int)
      ·rw [if_pos c6] at H
       have c6b0 : decide (x5_1 < (l1.length : Int)) = true := decide_eq_true c6
       clear c6
       by_cases c7 : ((!((((rd_T28 l0 x5_1).f0.f0).toList) == (((rd_T28 l1 x5_1).f0.f0).toList)) || (!((((rd_T28 l0 x5_1).f0.f1).toList) == (((rd_T28 l1 x5_1).f0.f1).toList)) || (!((((rd_T28 l0 x5_1).f0.f2).toList) == (((rd_T28 l1 x5_1).f0.f2).toList)) || (!((((rd_T28 l0 x5_1).f0.f3).toList) == (((rd_T28 l1 x5_1).f0.f3).toList)) || (!(((rd_T28 l0 x5_1).f0.f4) == ((rd_T28 l1 x5_1).f0.f4))))))) || (!(((rd_T28 l0 x5_1).f1) == ((rd_T28 l1 x5_1).f1)))) = true
       ·rw [if_pos c7] at H
        have c7b0 : ((!((((rd_T28 l0 x5_1).f0.f0).toList) == (((rd_T28 l1 x5_1).f0.f0).toList)) || (!((((rd_T28 l0 x5_1).f0.f1).toList) == (((rd_T28 l1 x5_1).f0.f1).toList)) || (!((((rd_T28 l0 x5_1).f0.f2).toList) == (((rd_T28 l1 x5_1).f0.f2).toList)) || (!((((rd_T28 l0 x5_1).f0.f3).toList) == (((rd_T28 l1 x5_1).f0.f3).toList)) || (!(((rd_T28 l0 x5_1).f0.f4) == ((rd_T28 l1 x5_1).f0.f4))))))) || (!(((rd_T28 l0 x5_1).f1) == ((rd_T28 l1 x5_1).f1)))) = true := c7
        clear c7
        obtain rfl := Option.some.inj H
        have p354 : 0 ≤ (x5_1 : Int) := of_decide_eq_true as_
        have q354 : x5_1 < (l0.length : Int) := of_decide_eq_true as_
        obtain ⟨ad354, e354, hx354_0, hx354_1, hx354_2, hx354_3, hx354_4, hx354_5⟩ := at_T28 HR0.out x5_1 p354 q354
        cases e354
        replace p354 := eq_true p354
        replace q354 := eq_true q354
        have p355 : 0 ≤ (x5_1 : Int) := of_decide_eq_true as_
        have q355 : x5_1 < (l1.length : Int) := of_decide_eq_true as_
        obtain ⟨ad355, e355, hx355_0, hx355_1, hx355_2, hx355_3, hx355_4, hx355_5⟩ := at_T28 HR1.out x5_1 p355 q355
        cases e355
        replace p355 := eq_true p355
        replace q355 := eq_true q355
        go_wp2
        repeat (go_quiet (fail); try go_wp2)
        go_ret
        exact ⟨by first | rfl | (simp; done) | (simp [*]; done), by repeat (first | exact Drawn0.refl _ | apply Drawn0.step)⟩
       ·rw [if_neg c7] at H
        have c7b0 : ((!((((rd_T28 l0 x5_1).f0.f0).toList) == (((rd_T28 l1 x5_1).f0.f0).toList)) || (!((((rd_T28 l0 x5_1).f0.f1).toList) == (((rd_T28 l1 x5_1).f0.f1).toList)) || (!((((rd_T28 l0 x5_1).f0.f2).toList) == (((rd_T28 l1 x5_1).f0.f2).toList)) || (!((((rd_T28 l0 x5_1).f0.f3).toList) == (((rd_T28 l1 x5_1).f0.f3).toList)) || (!(((rd_T28 l0 x5_1).f0.f4) == ((rd_T28 l1 x5_1).f0.f4))))))) || (!(((rd_T28 l0 x5_1).f1) == ((rd_T28 l1 x5_1).f1)))) = false := by simpa using c7
        clear c7
        have H' := Aside0.mk H
        clear H
        have p354 : 0 ≤ (x5_1 : Int) := of_decide_eq_true as_
        have q354 : x5_1 < (l0.length : Int) := of_decide_eq_true as_
        obtain ⟨ad354, e354, hx354_0, hx354_1, hx354_2, hx354_3, hx354_4, hx354_5⟩ := at_T28 HR0.out x5_1 p354 q354
        cases e354
        replace p354 := eq_true p354
        replace q354 := eq_true q354
        have p355 : 0 ≤ (x5_1 : Int) := of_decide_eq_true as_
        have q355 : x5_1 < (l1.length : Int) := of_decide_eq_true as_
        obtain ⟨ad355, e355, hx355_0, hx355_1, hx355_2, hx355_3, hx355_4, hx355_5⟩ := at_T28 HR1.out x5_1 p355 q355
        cases e355
        replace p355 := eq_true p355
        replace q355 := eq_true q355
        go_wp2
        repeat (go_quiet (fail); try go_wp2)
        go_roundg k1
        case measure => have := HK1.out; omega
        case rel => exact ⟨(wrap64 (x5_1 + 1)), rs_, H', ⟨by have := HK1.out; omega⟩, by repeat (first | exact Drawn0.refl _ | apply Drawn0.step)⟩
      ·rw [if_neg c6] at H
       exact absurd H (by simp)
     ·rw [if_neg c5] at H
      exact absurd H (by simp)
    ·rw [if_neg c4] at H
     have c4b0 : decide (x5_1 < (l0.length : Int)) = false := decide_eq_false c4
     clear c4
     obtain rfl := Option.some.inj H
     go_wp2
     repeat (go_quiet (fail); try go_wp2)
     go_ret
     exact ⟨by first | rfl | (simp; done) | (simp [*]; done), by repeat (first | exact Drawn0.refl _ | apply Drawn0.step)⟩
 ·rw [if_neg c3] at H
  have c3b0 : ((l0.length : Int) == (l1.length : Int)) = false := beq_eq_false_iff_ne.mpr c3
  have c3b1 : ((l0.length : Int) != (l1.length : Int)) = true := bne_iff_ne.mpr c3
  have c3b2 : (l0.length == l1.length) = false := by first | simpa using c3 | (simp at c3 ⊢; omega)
  obtain rfl := Option.some.inj H
  go_enter Try.func14, Try.ntmps14
  go_wp2
  repeat (go_quiet (fail); try go_wp2)
  go_ret
  exact ⟨by first | rfl | (simp; done) | (simp [*]; done), by repeat (first | exact Drawn0.refl _ | apply Drawn0.step)⟩

end Go.Proofs.Ytdckeflggcefbaa.Y
