/- Plain Lean functions with the answers of the program's functions, and proofs that the machine's calls come to them; lines written by a program for this claim. What a stable sort is, and what exchanges of parts of a list leave: insertion, exchange of two stretches, rotation. Plain Lean; the numbers of a list's places are small. What a cube of facts is: its keys rise, no amount is 0, each key has the sum of its facts; there is one alone. Plain Lean. cent.Add on amounts whose sum fits: the sum, and no error. Plain Lean. Insertion sort of a stretch: it is sorted, facts of one key stand as they stood. Plain Lean. The merge of two sorted stretches: sorted, facts of one key stand as they stood. Plain Lean. No conditions. -/
import Derived.Test.YtdckeflggcefbaaO1
import Derived.Test.YtdckeflggcefbaaO2
import Derived.Test.YtdckeflggcefbaaO3
namespace Go.Proofs.Ytdckeflggcefbaa.Y
open Go.RowKit Go.Proofs.YtdckeflggcefbaaW.PrintWords Go.Proofs.YtdckeflggcefbaaW.PrintLast Go.Proofs.YtdckeflggcefbaaW.PrintMore
attribute [local go_sem] max2_int min2_int max_two min_two max_three min_three max_four min_four   -- for this text's walks alone
set_option linter.unusedVariables false
set_option linter.unusedSimpArgs false

/-! ### fact_Fact_50: function 50 -/
def fact_Fact_50.l0 : Nat → List (S55) → Int → Int → Int → Option ((List (S55)))
 | 0, _, _, _, _ => none
 | k + 1, x0, x2, x10, x11 => if x10 = x11 then ((fact_Fact_51.f k x0 (wrap64 (x2 - x10)) x2 x10).bind fun t132 => (some t132)) else (if x10 > x11 then ((fact_Fact_51.f k x0 (wrap64 (x2 - x10)) x2 x11).bind fun t133 => (fact_Fact_50.l0 k t133 x2 (wrap64 (x10 - x11)) x11)) else ((fact_Fact_51.f k x0 (wrap64 (x2 - x10)) (wrap64 ((wrap64 (x2 + x11)) - x10)) x10).bind fun t134 => (fact_Fact_50.l0 k t134 x2 x10 (wrap64 (x11 - x10)))))
def fact_Fact_50.f (k : Nat) (l0 : List (S55)) (a1 : Int) (a2 : Int) (a3 : Int)  : Option ((List (S55))) := fact_Fact_50.l0 k l0 a2 (wrap64 (a2 - a1)) (wrap64 (a3 - a2))
theorem fact_Fact_50.mono_l : ∀ k, (∀ y0 y1 y2 y3, LeO (fact_Fact_50.l0 k y0 y1 y2 y3) (fact_Fact_50.l0 (k + 1) y0 y1 y2 y3))
 | 0 => fun _ _ _ _ r h => by simp [fact_Fact_50.l0] at h
 | k + 1 => by
  have ih0 := fact_Fact_50.mono_l k
  ·intro y0 y1 y2 y3
   unfold fact_Fact_50.l0
   repeat' first
   | (with_reducible exact ih0 _ _ _ _)
   | (with_reducible exact fact_Fact_51.mono _ _ _ _ _)
   | (with_reducible exact LeO.refl _)
   | (with_reducible exact LeO.none _)
   | (with_reducible refine LeO.ite ?_ ?_)
   | (with_reducible refine LeO.bind ?_ (fun _ => ?_))
   | exact ih0 _ _ _ _
   | exact fact_Fact_51.mono _ _ _ _ _
   | exact LeO.none _
   | refine LeO.ite ?_ ?_
   | refine LeO.bind ?_ (fun _ => ?_)
theorem fact_Fact_50.mono : ∀ a0 a1 a2 a3 k, LeO (fact_Fact_50.f k a0 a1 a2 a3) (fact_Fact_50.f (k + 1) a0 a1 a2 a3) := by
 intro a0 a1 a2 a3 k
 have ih0 := fact_Fact_50.mono_l k
 unfold fact_Fact_50.f
 repeat' first
   | (with_reducible exact ih0 _ _ _ _)
   | (with_reducible exact fact_Fact_51.mono _ _ _ _ _)
   | (with_reducible exact LeO.refl _)
   | (with_reducible exact LeO.none _)
   | (with_reducible refine LeO.ite ?_ ?_)
   | (with_reducible refine LeO.bind ?_ (fun _ => ?_))
   | exact ih0 _ _ _ _
   | exact fact_Fact_51.mono _ _ _ _ _
   | exact LeO.none _
   | refine LeO.ite ?_ ?_
   | refine LeO.bind ?_ (fun _ => ?_)
set_option maxHeartbeats 8000000 in
set_option maxRecDepth 100000 in
theorem fact_Fact_50.calls (k : Nat) (P0_ : Nat → Prop) (u9000_ : Value) (l0 : List (S55)) (a1 : Int) (a2 : Int) (a3 : Int)  (r : List (S55)) (w0 w : World) (hB : Below w0.heap.size w0 w) (ho0 : Kd.R k55 55 w w0.heap.size P0_ u9000_ l0) (h : fact_Fact_50.f k l0 a1 a2 a3 = some r) :
  Calls Try.prog 50 #[u9000_, .int .i64 a1, .int .i64 a2, .int .i64 a3, .func (.func 34) #[] #[]] w fun e w' => e = .returned (.tuple #[]) ∧ Kd.R k55 55 w' w0.heap.size (fun k_ => (P0_ k_ ∨ w.heap.size ≤ k_)) u9000_ r ∧ Below w0.heap.size w0 w' ∧ Kept w w' (fun k_ => P0_ k_) := by
 have HO0 := Aside0.mk (show Kd.R k55 55 w w0.heap.size (fun k_ => (P0_ k_ ∨ w.heap.size ≤ k_)) u9000_ l0 from Kd.R_mono ho0 (fun k_ hk => (.inl hk)))
 have HK := Aside0.mk (Kept.refl w (fun k_ => P0_ k_))
 have HW0 := Aside0.mk hB.size
 have HB := Aside0.mk hB
 clear hB
 have H : (fact_Fact_50.l0 k l0 a2 (wrap64 (a2 - a1)) (wrap64 (a3 - a2))) = some r := h
 clear h
 have H' := Aside0.mk H
 clear H
 go_enter Try.func50, Try.ntmps50
 go_wp2
 go_loopg [10, 11] k (fun kq v10 v11 w' => ∃ (x0_1 : List (S55)) (x10_1 : Int) (x11_1 : Int), v10 = .int .i64 x10_1 ∧ v11 = .int .i64 x11_1 ∧ Aside0 (fact_Fact_50.l0 kq x0_1 a2 x10_1 x11_1 = some r) ∧ Aside0 (kq ≤ k) ∧ Aside0 (Kd.R k55 55 w' w0.heap.size (fun k_ => (P0_ k_ ∨ w.heap.size ≤ k_)) u9000_ x0_1) ∧ Aside0 (Kept w w' (fun k_ => P0_ k_)) ∧ Aside0 (Below w0.heap.size w0 w'))
 case atStart => exact ⟨(l0), (wrap64 (a2 - a1)), (wrap64 (a3 - a2)), rs_, rs_, H', ⟨Nat.le_refl _⟩, ⟨by (with_reducible repeat (first | apply Kd.R_alloc | apply Kd.R_drewN | apply Kd.R_drew)); exact HO0.out⟩, ⟨by repeat (first | (with_reducible first | exact HK.out | apply Kept.alloc | apply Kept.drewN | apply Kept.drew) | exact HK.out)⟩, ⟨bw⟩⟩
 case round =>
  clear H'
  try clear p2
  try clear c5
  obtain ⟨x0_1, x10_1, x11_1, rfl, rfl, HA, HK1, HO_0, HK, HB⟩ := hrel
  cases gk with
  | zero => exact absurd HA.out (by simp [fact_Fact_50.l0])
  | succ k1 =>
   have H := HA.out
   clear HA
   simp only [fact_Fact_50.l0] at H
   by_cases c6 : x10_1 = x11_1
   ·rw [if_pos c6] at H
    have c6b0 : (x10_1 == x11_1) = true := beq_iff_eq.mpr c6
    have c6b1 : (x10_1 != x11_1) = false := bne_eq_false_iff_eq.mpr c6
    clear c6
    replace H := Option.bind_eq_some_iff.mp H
    obtain ⟨t132, A70, H⟩ := H
    replace H : (some t132) = some r := H
    have A7 := Aside0.mk A70
    clear A70
    obtain rfl := Option.some.inj H
    obtain ⟨Ao8, co8, eo8⟩ := Kd.R_slice HO_0.out
    subst eo8
    go_wp2_with (first | ((with_reducible refine gate_callee (f := 51) rfl ?_); refine goesL_ (some 57) rfl rfl Try.func51 (by kernel_rfl) rfl #[.slice Ao8 x0_1.length co8, .int .i64 (wrap64 (a2 - x10_1)), .int .i64 a2, .int .i64 x10_1, .func (.func 34) #[] #[]] rfl mp_ ?_; (with_reducible refine (fact_Fact_51.calls k1 (fun k_ => some k_ = (.slice Ao8 x0_1.length co8 : Value).ownBlock) (.slice Ao8 x0_1.length co8) x0_1 (wrap64 (a2 - x10_1)) a2 x10_1  t132 w0 _ ?side1 ?side2 A7.out).mono ?_); (case side1 => repeat (first | (with_reducible first | exact HB.out | apply below_alloc | apply pw_below_drewN | apply below_drew1) | exact HB.out)); (case side2 => exact Kd.R_tight rfl HO_0.out); rintro e w9 ⟨rfl, hy0, hb, hkp⟩; refine ⟨_, rfl, ?_⟩; have n0_ := Aside0.mk (Kd.R_reok rfl hy0 (fun k_ e_ => HO_0.out.1 k_ e_)); have n1_ := Aside0.mk (Kept.then_ (S := (fun k_ => P0_ k_)) (by repeat (first | (with_reducible first | exact HK.out | apply Kept.alloc | apply Kept.drewN | apply Kept.drew) | exact HK.out)) hkp (fun k_ hs_ => (fun e_ => (HO_0.out.1 k_ e_.symm)) hs_)); have n2_ := Aside0.mk (hb); clear HO_0; clear HK; clear HB; have HO_0 := n0_; have HK := n1_; have HB := n2_; clear n0_ n1_ n2_; (try clear hb); (try clear hkp); (try clear hy0)))
    first | go_end0 | ((try simp only [Exit.inBlock, Exit.then]); refine bodyPost_ret (results_none rfl _ _ _) rfl ?_)
    exact ⟨re_, by (with_reducible repeat (first | apply Kd.R_alloc | apply Kd.R_drewN | apply Kd.R_drew)); exact HO_0.out, by repeat (first | (with_reducible first | exact HB.out | apply below_alloc | apply pw_below_drewN | apply below_drew1) | exact HB.out), by repeat (first | (with_reducible first | exact HK.out | apply Kept.alloc | apply Kept.drewN | apply Kept.drew) | exact HK.out)⟩
   ·rw [if_neg c6] at H
    have c6b0 : (x10_1 == x11_1) = false := beq_eq_false_iff_ne.mpr c6
    have c6b1 : (x10_1 != x11_1) = true := bne_iff_ne.mpr c6
    by_cases c10 : x10_1 > x11_1
    ·rw [if_pos c10] at H
     have c10b0 : decide (x11_1 < x10_1) = true := decide_eq_true c10
     clear c10
     replace H := Option.bind_eq_some_iff.mp H
     obtain ⟨t133, A110, H⟩ := H
     replace H : (fact_Fact_50.l0 k1 t133 a2 (wrap64 (x10_1 - x11_1)) x11_1) = some r := H
     have A11 := Aside0.mk A110
     clear A110
     have H' := Aside0.mk H
     clear H
     obtain ⟨Ao12, co12, eo12⟩ := Kd.R_slice HO_0.out
     subst eo12
     go_wp2_with (first | ((with_reducible refine gate_callee (f := 51) rfl ?_); refine goesL_ (some 31) rfl rfl Try.func51 (by kernel_rfl) rfl #[.slice Ao12 x0_1.length co12, .int .i64 (wrap64 (a2 - x10_1)), .int .i64 a2, .int .i64 x11_1, .func (.func 34) #[] #[]] rfl mp_ ?_; (with_reducible refine (fact_Fact_51.calls k1 (fun k_ => some k_ = (.slice Ao12 x0_1.length co12 : Value).ownBlock) (.slice Ao12 x0_1.length co12) x0_1 (wrap64 (a2 - x10_1)) a2 x11_1  t133 w0 _ ?side1 ?side2 A11.out).mono ?_); (case side1 => repeat (first | (with_reducible first | exact HB.out | apply below_alloc | apply pw_below_drewN | apply below_drew1) | exact HB.out)); (case side2 => exact Kd.R_tight rfl HO_0.out); rintro e w13 ⟨rfl, hy0, hb, hkp⟩; refine ⟨_, rfl, ?_⟩; have n0_ := Aside0.mk (Kd.R_reok rfl hy0 (fun k_ e_ => HO_0.out.1 k_ e_)); have n1_ := Aside0.mk (Kept.then_ (S := (fun k_ => P0_ k_)) (by repeat (first | (with_reducible first | exact HK.out | apply Kept.alloc | apply Kept.drewN | apply Kept.drew) | exact HK.out)) hkp (fun k_ hs_ => (fun e_ => (HO_0.out.1 k_ e_.symm)) hs_)); have n2_ := Aside0.mk (hb); clear HO_0; clear HK; clear HB; have HO_0 := n0_; have HK := n1_; have HB := n2_; clear n0_ n1_ n2_; (try clear hb); (try clear hkp); (try clear hy0)))
     go_roundg k1
     case measure => have := HK1.out; omega
     case rel => exact ⟨(t133), (wrap64 (x10_1 - x11_1)), (x11_1), rs_, rs_, H', ⟨by have := HK1.out; omega⟩, ⟨by (with_reducible repeat (first | apply Kd.R_alloc | apply Kd.R_drewN | apply Kd.R_drew)); exact HO_0.out⟩, ⟨by repeat (first | (with_reducible first | exact HK.out | apply Kept.alloc | apply Kept.drewN | apply Kept.drew) | exact HK.out)⟩, ⟨bw⟩⟩
    ·rw [if_neg c10] at H
     have c10b0 : decide (x11_1 < x10_1) = false := decide_eq_false c10
     clear c10
     replace H := Option.bind_eq_some_iff.mp H
     obtain ⟨t134, A140, H⟩ := H
     replace H : (fact_Fact_50.l0 k1 t134 a2 x10_1 (wrap64 (x11_1 - x10_1))) = some r := H
     have A14 := Aside0.mk A140
     clear A140
     have H' := Aside0.mk H
     clear H
     obtain ⟨Ao15, co15, eo15⟩ := Kd.R_slice HO_0.out
     subst eo15
     go_wp2_with (first | ((with_reducible refine gate_callee (f := 51) rfl ?_); refine goesL_ (some 46) rfl rfl Try.func51 (by kernel_rfl) rfl #[.slice Ao15 x0_1.length co15, .int .i64 (wrap64 (a2 - x10_1)), .int .i64 (wrap64 ((wrap64 (a2 + x11_1)) - x10_1)), .int .i64 x10_1, .func (.func 34) #[] #[]] rfl mp_ ?_; (with_reducible refine (fact_Fact_51.calls k1 (fun k_ => some k_ = (.slice Ao15 x0_1.length co15 : Value).ownBlock) (.slice Ao15 x0_1.length co15) x0_1 (wrap64 (a2 - x10_1)) (wrap64 ((wrap64 (a2 + x11_1)) - x10_1)) x10_1  t134 w0 _ ?side1 ?side2 A14.out).mono ?_); (case side1 => repeat (first | (with_reducible first | exact HB.out | apply below_alloc | apply pw_below_drewN | apply below_drew1) | exact HB.out)); (case side2 => exact Kd.R_tight rfl HO_0.out); rintro e w16 ⟨rfl, hy0, hb, hkp⟩; refine ⟨_, rfl, ?_⟩; have n0_ := Aside0.mk (Kd.R_reok rfl hy0 (fun k_ e_ => HO_0.out.1 k_ e_)); have n1_ := Aside0.mk (Kept.then_ (S := (fun k_ => P0_ k_)) (by repeat (first | (with_reducible first | exact HK.out | apply Kept.alloc | apply Kept.drewN | apply Kept.drew) | exact HK.out)) hkp (fun k_ hs_ => (fun e_ => (HO_0.out.1 k_ e_.symm)) hs_)); have n2_ := Aside0.mk (hb); clear HO_0; clear HK; clear HB; have HO_0 := n0_; have HK := n1_; have HB := n2_; clear n0_ n1_ n2_; (try clear hb); (try clear hkp); (try clear hy0)))
     go_roundg k1
     case measure => have := HK1.out; omega
     case rel => exact ⟨(t134), (x10_1), (wrap64 (x11_1 - x10_1)), rs_, rs_, H', ⟨by have := HK1.out; omega⟩, ⟨by (with_reducible repeat (first | apply Kd.R_alloc | apply Kd.R_drewN | apply Kd.R_drew)); exact HO_0.out⟩, ⟨by repeat (first | (with_reducible first | exact HK.out | apply Kept.alloc | apply Kept.drewN | apply Kept.drew) | exact HK.out)⟩, ⟨bw⟩⟩

end Go.Proofs.Ytdckeflggcefbaa.Y
namespace Go.Proofs.Ytdckeflggcefbaa.Y
open Go.RowKit Go.Proofs.YtdckeflggcefbaaW.PrintWords Go.Proofs.YtdckeflggcefbaaW.PrintLast Go.Proofs.YtdckeflggcefbaaW.PrintMore
set_option linter.unusedVariables false
set_option linter.unusedSimpArgs false
theorem le_of_not_lt {x y : S55} (h : ¬ cmpS x y < 0) : cmpS y x ≤ 0 := by have := cmpS_good.anti x y; omega
theorem lt_le {x y z : S55} (h : cmpS x y < 0) (g : cmpS y z ≤ 0) : cmpS x z < 0 := by
  have a := cmpS_good.anti x z
  have b := cmpS_good.anti x y
  have t := cmpS_good.trans y z x g
  omega
theorem le_lt {x y z : S55} (h : cmpS x y ≤ 0) (g : cmpS y z < 0) : cmpS x z < 0 := by
  have a := cmpS_good.anti x z
  have b := cmpS_good.anti y z
  have t := cmpS_good.trans z x y
  omega
/-- Sorted: each stands no lower than any ahead of it. -/
def Srt (l : List S55) : Prop := l.Pairwise fun x y => cmpS x y ≤ 0
def eqv (x y : S55) : Bool := cmpS x y == 0
/-- r is l, sorted; facts of one key stand as they stood. -/
def SS (l r : List S55) : Prop := Srt r ∧ ∀ x, r.filter (eqv x) = l.filter (eqv x)
theorem Srt.app {a b : List S55} (ha : Srt a) (hb : Srt b) (h : ∀ x ∈ a, ∀ y ∈ b, cmpS x y ≤ 0) : Srt (a ++ b) := List.pairwise_append.2 ⟨ha, hb, h⟩
theorem Srt.left {a b : List S55} (h : Srt (a ++ b)) : Srt a := (List.pairwise_append.1 h).1
theorem Srt.right {a b : List S55} (h : Srt (a ++ b)) : Srt b := (List.pairwise_append.1 h).2.1
theorem Srt.across {a b : List S55} (h : Srt (a ++ b)) : ∀ x ∈ a, ∀ y ∈ b, cmpS x y ≤ 0 := (List.pairwise_append.1 h).2.2
theorem SS.refl {l : List S55} (h : Srt l) : SS l l := ⟨h, fun _ => rfl⟩
theorem SS.trans {a b c : List S55} (h : SS a b) (g : SS b c) : SS a c := ⟨g.1, fun x => (g.2 x).trans (h.2 x)⟩
theorem SS.mem {l r : List S55} (h : SS l r) {x : S55} : x ∈ r ↔ x ∈ l := by
  have e : eqv x x = true := by simp [eqv, cmpS_good.refl]
  have h1 : ∀ k : List S55, x ∈ k ↔ x ∈ k.filter (eqv x) := fun k => by simp [List.mem_filter, e]
  rw [h1 r, h.2, ← h1]
/-- Two parts that stand apart, each sorted. -/
theorem SS.app {a b c d : List S55} (h : SS a c) (g : SS b d) (hx : ∀ x ∈ a, ∀ y ∈ b, cmpS x y ≤ 0) : SS (a ++ b) (c ++ d) :=
  ⟨h.1.app g.1 fun x hx' y hy => hx x (h.mem.1 hx') y (g.mem.1 hy), fun x => by rw [List.filter_append, List.filter_append, h.2, g.2]⟩
/-- What is strictly below may go ahead. -/
theorem filter_cross {a b : List S55} (h : ∀ x ∈ a, ∀ y ∈ b, cmpS y x < 0) (z : S55) : (b ++ a).filter (eqv z) = (a ++ b).filter (eqv z) := by
  rw [List.filter_append, List.filter_append]
  by_cases ha : a.filter (eqv z) = []
  · rw [ha]; simp
  · obtain ⟨x, hx⟩ := List.exists_mem_of_ne_nil _ ha
    rw [List.mem_filter] at hx
    have hb : b.filter (eqv z) = [] := by
      rw [List.filter_eq_nil_iff]
      intro y hy e
      have h1 := h x hx.1 y hy
      have h2 : cmpS z x = 0 := by simpa [eqv] using hx.2
      have h3 : cmpS z y = 0 := by simpa [eqv] using e
      have := cmpS_good.anti z y
      have := cmpS_good.anti z x
      have := lt_le (z := z) h1 (by omega)
      omega
    rw [hb]; simp
theorem rd_app (P R : List S55) (x : S55) (i : Int) (hi : i = P.length) : rd_T55 (P ++ x :: R) i = x := by
  subst hi; simp [rd_T55, List.getD_eq_getElem?_getD]
theorem swap_app (P M Q : List S55) (x y : S55) (i j : Int) (hi : i = P.length) (hj : j = P.length + 1 + M.length) :
    ((P ++ (x :: (M ++ y :: Q))).set i.toNat y).set j.toNat x = P ++ (y :: (M ++ x :: Q)) := by
  subst hi hj
  have e : ((P.length : Int) + 1 + M.length).toNat = P.length + (1 + M.length) := by omega
  rw [e, Int.toNat_natCast, List.set_append_right _ _ (Nat.le_refl _), List.set_append_right _ _ (by omega)]
  simp only [Nat.sub_self, List.set_cons_zero, Nat.add_sub_cancel_left, Nat.add_comm 1, List.set_cons_succ]
  rw [List.set_append_right _ _ (Nat.le_refl _)]
  simp
/-- Few enough for a machine's whole number. -/
def Sm (n : Nat) : Prop := n ≤ 1000000000000000000

/-! ### the exchange of two stretches -/
theorem l51_step {xs : List S55} {a b n i : Int} (k : Nat) (hs : Sm xs.length) (h : i < n) (hn : n ≤ 1000000000000000000) (h0 : 0 ≤ i) (ha : 0 ≤ a + i) (ha2 : a + i < xs.length) (hb : 0 ≤ b + i) (hb2 : b + i < xs.length) :
    fact_Fact_51.l0 (k + 1) xs a b n i = fact_Fact_51.l0 k ((xs.set (a + i).toNat (rd_T55 xs (b + i))).set (b + i).toNat (rd_T55 xs (a + i))) a b n (i + 1) := by
  unfold Sm at hs
  simp only [fact_Fact_51.l0]
  rw [if_pos h, w64 (n := b + i) (by omega) (by omega), w64 (n := a + i) (by omega) (by omega), w64 (n := i + 1) (by omega) (by omega), if_pos hb, if_pos hb2, if_pos ha, if_pos ha2]
theorem l51_end {xs : List S55} {a b n i : Int} (k : Nat) (h : ¬ i < n) : fact_Fact_51.l0 (k + 1) xs a b n i = some xs := by
  simp only [fact_Fact_51.l0]; rw [if_neg h]
theorem l51_ev : ∀ (X Y P M Q : List S55) (a b n i : Int), X.length = Y.length → Sm (P ++ (X ++ (M ++ (Y ++ Q)))).length → a + i = P.length → b + i = P.length + X.length + M.length → n - i = X.length → n ≤ 1000000000000000000 → 0 ≤ i →
    Ev (fun k => fact_Fact_51.l0 k (P ++ (X ++ (M ++ (Y ++ Q)))) a b n i) (P ++ (Y ++ (M ++ (X ++ Q))))
  | [], [], P, M, Q, a, b, n, i, hl, hs, ha, hb, hn, hn2, hi => by
    exact ⟨1, fun k hk => by obtain ⟨k, rfl⟩ : ∃ j, k = j + 1 := ⟨k - 1, by omega⟩; show fact_Fact_51.l0 (k + 1) _ _ _ _ _ = _; rw [l51_end k (by simp at hn; omega)]⟩
  | x :: X, y :: Y, P, M, Q, a, b, n, i, hl, hs, ha, hb, hn, hn2, hi => by
    have hl' : X.length = Y.length := by simpa using hl
    have hlen : (P ++ ((x :: X) ++ (M ++ ((y :: Y) ++ Q)))).length = P.length + X.length + M.length + Y.length + Q.length + 2 := by simp; omega
    simp only [List.length_cons] at hb hn
    have ih := l51_ev X Y (P ++ [y]) (M ++ [x]) Q a b n (i + 1) hl' (by unfold Sm at hs ⊢; rw [hlen] at hs; simp; omega) (by simp; omega) (by simp; omega) (by omega) hn2 (by omega)
    rw [show P ++ ((y :: Y) ++ (M ++ ((x :: X) ++ Q))) = (P ++ [y]) ++ (Y ++ ((M ++ [x]) ++ (X ++ Q))) by simp]
    refine Ev.step ih fun k => ?_
    show fact_Fact_51.l0 (k + 1) _ _ _ _ _ = _
    rw [l51_step k hs (by omega) hn2 hi (by omega) (by rw [hlen]; omega) (by omega) (by rw [hlen]; omega)]
    have e1 : P ++ ((x :: X) ++ (M ++ ((y :: Y) ++ Q))) = P ++ (x :: ((X ++ M) ++ y :: (Y ++ Q))) := by simp
    have e2 : P ++ ((x :: X) ++ (M ++ ((y :: Y) ++ Q))) = (P ++ (x :: (X ++ M))) ++ y :: (Y ++ Q) := by simp
    have r1 : rd_T55 (P ++ ((x :: X) ++ (M ++ ((y :: Y) ++ Q)))) (a + i) = x := by rw [e1]; exact rd_app _ _ _ _ ha
    have r2 : rd_T55 (P ++ ((x :: X) ++ (M ++ ((y :: Y) ++ Q)))) (b + i) = y := by rw [e2]; exact rd_app _ _ _ _ (by simp; omega)
    rw [r1, r2, e1, swap_app P (X ++ M) (Y ++ Q) x y (a + i) (b + i) ha (by simp; omega)]
    congr 1
    simp
theorem f51_ev (X Y P M Q : List S55) (a b n : Int) (hl : X.length = Y.length) (hs : Sm (P ++ (X ++ (M ++ (Y ++ Q)))).length) (ha : a = P.length) (hb : b = P.length + X.length + M.length) (hn : n = X.length) :
    Ev (fun k => fact_Fact_51.f k (P ++ (X ++ (M ++ (Y ++ Q)))) a b n) (P ++ (Y ++ (M ++ (X ++ Q)))) :=
  l51_ev X Y P M Q a b n 0 hl hs (by omega) (by omega) (by omega) (by unfold Sm at hs; simp at hs; omega) (by omega)

/-! ### the rotation -/
theorem l50_ev : ∀ (n : Nat) (U V P Q : List S55) (m i j : Int), U.length + V.length ≤ n → Sm (P ++ (U ++ (V ++ Q))).length → 0 < U.length → 0 < V.length → i = U.length → j = V.length → m = P.length + U.length →
    Ev (fun k => fact_Fact_50.l0 k (P ++ (U ++ (V ++ Q))) m i j) (P ++ (V ++ (U ++ Q)))
  | 0, U, V, P, Q, m, i, j, hn, hs, hu, hv, hi, hj, hm => by omega
  | n + 1, U, V, P, Q, m, i, j, hn, hs, hu, hv, hi, hj, hm => by
    have hs' : P.length + U.length + V.length + Q.length ≤ 1000000000000000000 := by unfold Sm at hs; simp at hs; omega
    have wm : wrap64 (m - i) = m - i := w64 (by omega) (by omega)
    rcases Nat.lt_trichotomy U.length V.length with h | h | h
    · -- i < j
      obtain ⟨V1, V2, rfl, h2⟩ : ∃ V1 V2, V = V1 ++ V2 ∧ V2.length = U.length := ⟨V.take (V.length - U.length), V.drop (V.length - U.length), (List.take_append_drop _ _).symm, by simp; omega⟩
      have hV : (V1 ++ V2).length = V1.length + V2.length := by simp
      have ex := f51_ev U V2 P V1 Q (m - i) (m + j - i) i h2.symm (by unfold Sm; simp; omega) (by omega) (by omega) (by omega)
      have ih := l50_ev n V2 V1 P (U ++ Q) m i (j - i) (by omega) (by unfold Sm; simp; omega) (by omega) (by omega) (by omega) (by omega) (by omega)
      refine Ev.step (g := fun k => (fact_Fact_51.f k (P ++ (U ++ ((V1 ++ V2) ++ Q))) (m - i) (m + j - i) i).bind fun t => fact_Fact_50.l0 k t m i (j - i)) ?_ fun k => ?_
      · have e : P ++ (U ++ ((V1 ++ V2) ++ Q)) = P ++ (U ++ (V1 ++ (V2 ++ Q))) := by simp
        rw [e]
        have e2 : P ++ ((V1 ++ V2) ++ (U ++ Q)) = P ++ (V1 ++ (V2 ++ (U ++ Q))) := by simp
        rw [e2]
        exact Ev.bind (g := fun k t => fact_Fact_50.l0 k t m i (j - i)) ex (ih.eq fun k => by simp)
      · show fact_Fact_50.l0 (k + 1) _ _ _ _ = _
        simp only [fact_Fact_50.l0]
        rw [if_neg (by omega), if_neg (by omega), wm, w64 (n := m + j) (by omega) (by omega), w64 (n := m + j - i) (by omega) (by omega), w64 (n := j - i) (by omega) (by omega)]
    · -- i = j
      have ex := f51_ev U V P [] Q (m - i) m i h (by unfold Sm; simp; omega) (by omega) (by simp; omega) (by omega)
      refine Ev.step (g := fun k => (fact_Fact_51.f k (P ++ (U ++ (V ++ Q))) (m - i) m i).bind fun t => some t) ?_ fun k => ?_
      · exact Ev.bind (g := fun _ t => some t) (by simpa using ex) (Ev.const fun _ => rfl)
      · show fact_Fact_50.l0 (k + 1) _ _ _ _ = _
        simp only [fact_Fact_50.l0]
        rw [if_pos (by omega), wm]
    · -- i > j
      obtain ⟨U1, U2, rfl, h2⟩ : ∃ U1 U2, U = U1 ++ U2 ∧ U1.length = V.length := ⟨U.take V.length, U.drop V.length, (List.take_append_drop _ _).symm, by simp; omega⟩
      have hU : (U1 ++ U2).length = U1.length + U2.length := by simp
      have ex := f51_ev U1 V P U2 Q (m - i) m j h2 (by unfold Sm; simp; omega) (by omega) (by omega) (by omega)
      have ih := l50_ev n U2 U1 (P ++ V) Q m (i - j) j (by omega) (by unfold Sm; simp; omega) (by omega) (by omega) (by omega) (by omega) (by simp; omega)
      refine Ev.step (g := fun k => (fact_Fact_51.f k (P ++ ((U1 ++ U2) ++ (V ++ Q))) (m - i) m j).bind fun t => fact_Fact_50.l0 k t m (i - j) j) ?_ fun k => ?_
      · have e : P ++ ((U1 ++ U2) ++ (V ++ Q)) = P ++ (U1 ++ (U2 ++ (V ++ Q))) := by simp
        rw [e]
        have e2 : P ++ (V ++ ((U1 ++ U2) ++ Q)) = (P ++ V) ++ (U1 ++ (U2 ++ Q)) := by simp
        rw [e2]
        exact Ev.bind (g := fun k t => fact_Fact_50.l0 k t m (i - j) j) ex (ih.eq fun k => by simp)
      · show fact_Fact_50.l0 (k + 1) _ _ _ _ = _
        simp only [fact_Fact_50.l0]
        rw [if_neg (by omega), if_pos (by omega), wm, w64 (n := i - j) (by omega) (by omega)]
theorem f50_ev (U V P Q : List S55) (a m b : Int) (hs : Sm (P ++ (U ++ (V ++ Q))).length) (hu : 0 < U.length) (hv : 0 < V.length) (ha : a = P.length) (hm : m = a + U.length) (hb : b = m + V.length) :
    Ev (fun k => fact_Fact_50.f k (P ++ (U ++ (V ++ Q))) a m b) (P ++ (V ++ (U ++ Q))) := by
  have hs' : P.length + U.length + V.length + Q.length ≤ 1000000000000000000 := by unfold Sm at hs; simp at hs; omega
  refine Ev.eq (l50_ev _ U V P Q m (m - a) (b - m) (Nat.le_refl _) hs hu hv (by omega) (by omega) (by omega)) fun k => ?_
  show fact_Fact_50.f k _ _ _ _ = _
  unfold fact_Fact_50.f
  rw [w64 (n := m - a) (by omega) (by omega), w64 (n := b - m) (by omega) (by omega)]
end Go.Proofs.Ytdckeflggcefbaa.Y
namespace Go.Proofs.Ytdckeflggcefbaa.Y
open Go.RowKit
set_option linter.unusedVariables false
set_option linter.unusedSimpArgs false
/-- The sum of a key's facts. -/
def amt (x : S44) : List S55 → Int
  | [] => 0
  | y :: l => (if cmpK x y.f0 = 0 then y.f1 else 0) + amt x l
/-- The sum of their sizes. -/
def abt (x : S44) : List S55 → Nat
  | [] => 0
  | y :: l => (if cmpK x y.f0 = 0 then y.f1.natAbs else 0) + abt x l
theorem amt_app (x : S44) : ∀ a b, amt x (a ++ b) = amt x a + amt x b
  | [], b => by simp [amt]
  | y :: a, b => by simp only [List.cons_append, amt, amt_app x a b]; omega
theorem abt_app (x : S44) : ∀ a b, abt x (a ++ b) = abt x a + abt x b
  | [], b => by simp [abt]
  | y :: a, b => by simp only [List.cons_append, abt, abt_app x a b]; omega
theorem amt_le_abt (x : S44) : ∀ l, (amt x l).natAbs ≤ abt x l
  | [] => by simp [amt, abt]
  | y :: l => by
    have := amt_le_abt x l
    simp only [amt, abt]
    split <;> omega
theorem eqv_key (x y : S55) : eqv x y = true ↔ cmpK x.f0 y.f0 = 0 := by simp [eqv, cmpS]
theorem amt_filter (x : S55) : ∀ l, amt x.f0 l = amt x.f0 (l.filter (eqv x))
  | [] => rfl
  | y :: l => by
    have ih := amt_filter x l
    by_cases h : cmpK x.f0 y.f0 = 0
    · rw [List.filter_cons_of_pos ((eqv_key x y).2 h)]
      simp only [amt, ih]
    · rw [List.filter_cons_of_neg (fun e => h ((eqv_key x y).1 e))]
      simp only [amt, if_neg h, ih]; omega
theorem abt_filter (x : S55) : ∀ l, abt x.f0 l = abt x.f0 (l.filter (eqv x))
  | [] => rfl
  | y :: l => by
    have ih := abt_filter x l
    by_cases h : cmpK x.f0 y.f0 = 0
    · rw [List.filter_cons_of_pos ((eqv_key x y).2 h)]
      simp only [abt, ih]
    · rw [List.filter_cons_of_neg (fun e => h ((eqv_key x y).1 e))]
      simp only [abt, if_neg h, ih]; omega
theorem SS.amt {l r : List S55} (h : SS l r) (x : S44) : amt x r = amt x l := by
  rw [amt_filter ⟨x, 0⟩ r, amt_filter ⟨x, 0⟩ l, h.2 ⟨x, 0⟩]
theorem SS.abt {l r : List S55} (h : SS l r) (x : S44) : abt x r = abt x l := by
  rw [abt_filter ⟨x, 0⟩ r, abt_filter ⟨x, 0⟩ l, h.2 ⟨x, 0⟩]
/-- Keys rise. -/
def Rise (l : List S55) : Prop := l.Pairwise fun x y => cmpS x y < 0
theorem amt_none (x : S44) : ∀ l : List S55, (∀ y ∈ l, ¬ cmpK x y.f0 = 0) → amt x l = 0
  | [], _ => rfl
  | y :: l, h => by
    simp only [amt, if_neg (h y (by simp)), amt_none x l (fun z hz => h z (by simp [hz]))]; omega
theorem abt_none (x : S44) : ∀ l : List S55, (∀ y ∈ l, ¬ cmpK x y.f0 = 0) → abt x l = 0
  | [], _ => rfl
  | y :: l, h => by
    simp only [abt, if_neg (h y (by simp)), abt_none x l (fun z hz => h z (by simp [hz]))]
/-- r is the cube of l. -/
structure IsCube (l r : List S55) : Prop where
  rise : Rise r
  some_ : ∀ y ∈ r, y.f1 ≠ 0
  sum : ∀ x, amt x r = amt x l
theorem Rise.head {y : S55} {l : List S55} (h : Rise (y :: l)) : amt y.f0 (y :: l) = y.f1 := by
  have := amt_none y.f0 l (fun z hz e => by have := (List.pairwise_cons.1 h).1 z hz; unfold cmpS at this; omega)
  simp only [amt, cmpK_good.refl, if_true, this]; omega
theorem Rise.below {y : S55} {x : S44} {l : List S55} (h : Rise (y :: l)) (hx : cmpK x y.f0 < 0) : amt x (y :: l) = 0 := by
  refine amt_none x _ fun z hz e => ?_
  rcases List.mem_cons.1 hz with rfl | hz
  · omega
  · have h1 := (List.pairwise_cons.1 h).1 z hz
    have := lt_le (x := ⟨x, 0⟩) (y := y) (z := z) hx (Int.le_of_lt h1)
    unfold cmpS at this
    simp only at this
    omega
theorem cube_one : ∀ (a b : List S55), Rise a → Rise b → (∀ y ∈ a, y.f1 ≠ 0) → (∀ y ∈ b, y.f1 ≠ 0) → (∀ x, amt x a = amt x b) → a = b
  | [], [], _, _, _, _, _ => rfl
  | [], y :: b, _, hb, _, nb, h => by
    have := h y.f0
    rw [hb.head] at this
    exact absurd this.symm (nb y (by simp))
  | y :: a, [], ha, _, na, _, h => by
    have := h y.f0
    rw [ha.head] at this
    exact absurd this (na y (by simp))
  | y :: a, z :: b, ha, hb, na, nb, h => by
    have anti := cmpK_good.anti y.f0 z.f0
    by_cases h1 : cmpK y.f0 z.f0 < 0
    · have := h y.f0
      rw [ha.head, hb.below h1] at this
      exact absurd this (na y (by simp))
    by_cases h2 : cmpK z.f0 y.f0 < 0
    · have := h z.f0
      rw [hb.head, ha.below h2] at this
      exact absurd this.symm (nb z (by simp))
    have e : y.f0 = z.f0 := (cmpK_zero _ _).1 (by omega)
    have e1 : y.f1 = z.f1 := by
      have := h y.f0
      rw [ha.head, e, hb.head] at this
      exact this
    have eyz : y = z := by
      cases y; cases z
      simp only at e e1
      subst e e1
      rfl
    subst eyz
    congr 1
    refine cube_one a b (List.pairwise_cons.1 ha).2 (List.pairwise_cons.1 hb).2 (fun w hw => na w (by simp [hw])) (fun w hw => nb w (by simp [hw])) fun x => ?_
    have := h x
    simp only [amt] at this
    omega
theorem IsCube.unique {l l' a b : List S55} (h : IsCube l a) (g : IsCube l' b) (e : ∀ x, amt x l = amt x l') : a = b :=
  cube_one a b h.rise g.rise h.some_ g.some_ fun x => by rw [h.sum, g.sum, e]
/-- Of a cube a key's sizes are its sum's size. -/
theorem Rise.abt : ∀ (l : List S55), Rise l → ∀ x, abt x l = (amt x l).natAbs
  | [], _, x => rfl
  | y :: l, h, x => by
    have ih := Rise.abt l (List.pairwise_cons.1 h).2 x
    by_cases e : cmpK x y.f0 = 0
    · have hn : ∀ z ∈ l, ¬ cmpK x z.f0 = 0 := fun z hz e2 => by
        have h1 := (List.pairwise_cons.1 h).1 z hz
        have e3 := (cmpK_zero _ _).1 e
        subst e3
        unfold cmpS at h1
        omega
      simp only [Y.abt, amt, if_pos e, abt_none x l hn, amt_none x l hn]
      omega
    · simp only [Y.abt, amt, if_neg e, ih]
      omega
theorem IsCube.abt {l r : List S55} (h : IsCube l r) (x : S44) : abt x r ≤ Y.abt x l := by
  rw [Rise.abt r h.rise x, h.sum]
  exact amt_le_abt x l
end Go.Proofs.Ytdckeflggcefbaa.Y
namespace Go.Proofs.Ytdckeflggcefbaa.Y
open Go.RowKit Go.Proofs.YtdckeflggcefbaaW.PrintWords Go.Proofs.YtdckeflggcefbaaW.PrintLast Go.Proofs.YtdckeflggcefbaaW.PrintMore
attribute [local go_sem] max2_int min2_int max_two min_two max_three min_three max_four min_four   -- for this text's walks alone
set_option linter.unusedVariables false
set_option linter.unusedSimpArgs false

/-! ### cent_Add: function 28 -/
def cent_Add.f (a0 : Int) (a1 : Int) : Option (Int × Int) := if (Go.bits .and .i64 (Go.bits .xor .i64 a0 (wrap64 (a0 + a1))) (Go.bits .xor .i64 a1 (wrap64 (a0 + a1)))) < 0 then (some (0, 2)) else (some (wrap64 (a0 + a1), 0))
set_option maxHeartbeats 8000000 in
set_option maxRecDepth 100000 in
theorem cent_Add.calls (a0 : Int) (a1 : Int) (r1 : Int) (r2 : Int) (w : World) (h : cent_Add.f a0 a1 = some (r1, r2)) :
  Calls Try.prog 28 #[.int .i64 a0, .int .i64 a1] w fun e w' => e = .returned (.tuple #[.int .i64 r1, .int .i64 r2]) ∧ Drawn0 w w' := by
 have H : (if (Go.bits .and .i64 (Go.bits .xor .i64 a0 (wrap64 (a0 + a1))) (Go.bits .xor .i64 a1 (wrap64 (a0 + a1)))) < 0 then (some (0, 2)) else (some (wrap64 (a0 + a1), 0))) = some (r1, r2) := h
 clear h
 by_cases c3 : (Go.bits .and .i64 (Go.bits .xor .i64 a0 (wrap64 (a0 + a1))) (Go.bits .xor .i64 a1 (wrap64 (a0 + a1)))) < 0
 ·rw [if_pos c3] at H
  have c3b0 : decide ((Go.bits .and .i64 (Go.bits .xor .i64 a0 (wrap64 (a0 + a1))) (Go.bits .xor .i64 a1 (wrap64 (a0 + a1)))) < 0) = true := decide_eq_true c3
  clear c3
  simp only [Option.some.injEq, Prod.mk.injEq] at H
  obtain ⟨rfl, rfl⟩ := H
  go_enter Try.func28, Try.ntmps28
  go_wp2
  go_ret2
  exact ⟨by first | rfl | (simp; done) | (simp [*]; done), by repeat (first | exact Drawn0.refl _ | apply Drawn0.step)⟩
 ·rw [if_neg c3] at H
  have c3b0 : decide ((Go.bits .and .i64 (Go.bits .xor .i64 a0 (wrap64 (a0 + a1))) (Go.bits .xor .i64 a1 (wrap64 (a0 + a1)))) < 0) = false := decide_eq_false c3
  clear c3
  simp only [Option.some.injEq, Prod.mk.injEq] at H
  obtain ⟨rfl, rfl⟩ := H
  go_enter Try.func28, Try.ntmps28
  go_wp2
  go_ret2
  exact ⟨by first | rfl | (simp; done) | (simp [*]; done), by repeat (first | exact Drawn0.refl _ | apply Drawn0.step)⟩

end Go.Proofs.Ytdckeflggcefbaa.Y
namespace Go.Proofs.Ytdckeflggcefbaa.Y
open Go.RowKit
set_option linter.unusedVariables false
theorem wrap_toInt (v : BitVec 64) : IntKind.i64.wrap (v.toNat : Int) = v.toInt := by
  rw [BitVec.toInt_eq_toNat_cond]
  have := v.isLt
  simp only [IntKind.wrap, IntKind.bits, IntKind.signed]
  simp
  split <;> split <;> omega
theorem msb_ofInt (x : Int) (h1 : -9223372036854775808 ≤ x) (h2 : x ≤ 9223372036854775807) : (BitVec.ofInt 64 x).msb = decide (x < 0) := by
  rw [BitVec.msb_eq_toInt, BitVec.toInt_ofInt]
  congr 1
  simp only [Int.bmod]
  apply propext
  constructor <;> intro h <;> split at * <;> omega
theorem bits_and_neg (x y : Int) (h1 : -9223372036854775808 ≤ x) (h2 : x ≤ 9223372036854775807) (h3 : -9223372036854775808 ≤ y) (h4 : y ≤ 9223372036854775807) : Go.bits .and .i64 x y < 0 ↔ x < 0 ∧ y < 0 := by
  have e : Go.bits .and .i64 x y = (BitVec.ofInt 64 x &&& BitVec.ofInt 64 y).toInt := wrap_toInt _
  have m : (BitVec.ofInt 64 x &&& BitVec.ofInt 64 y).msb = (decide (x < 0) && decide (y < 0)) := by rw [BitVec.msb_and, msb_ofInt x h1 h2, msb_ofInt y h3 h4]
  rw [BitVec.msb_eq_toInt] at m
  rw [e]
  constructor
  · intro h
    rw [decide_eq_true h] at m
    simpa using m.symm
  · rintro ⟨ha, hb⟩
    rw [decide_eq_true ha, decide_eq_true hb] at m
    simpa using m
theorem bits_xor_neg (x y : Int) (h1 : -9223372036854775808 ≤ x) (h2 : x ≤ 9223372036854775807) (h3 : -9223372036854775808 ≤ y) (h4 : y ≤ 9223372036854775807) : (Go.bits .xor .i64 x y < 0 ↔ ¬ (x < 0 ↔ y < 0)) ∧ -9223372036854775808 ≤ Go.bits .xor .i64 x y ∧ Go.bits .xor .i64 x y ≤ 9223372036854775807 := by
  have e : Go.bits .xor .i64 x y = (BitVec.ofInt 64 x ^^^ BitVec.ofInt 64 y).toInt := wrap_toInt _
  have m : (BitVec.ofInt 64 x ^^^ BitVec.ofInt 64 y).msb = (decide (x < 0) ^^ decide (y < 0)) := by rw [BitVec.msb_xor, msb_ofInt x h1 h2, msb_ofInt y h3 h4]
  rw [BitVec.msb_eq_toInt] at m
  rw [e]
  have b1 := BitVec.toInt_lt (x := BitVec.ofInt 64 x ^^^ BitVec.ofInt 64 y)
  have b2 := BitVec.le_toInt (x := BitVec.ofInt 64 x ^^^ BitVec.ofInt 64 y)
  refine ⟨?_, by simpa using b2, by have := b1; simp at this; omega⟩
  by_cases ha : x < 0 <;> by_cases hb : y < 0 <;> simp [ha, hb] at m <;> simp [ha, hb] <;> omega
/-- An amount that fits a machine's whole number. -/
def Fit (x : Int) : Prop := -9223372036854775808 ≤ x ∧ x ≤ 9223372036854775807
theorem cent_fits (a b : Int) (ha : Fit a) (hb : Fit b) (hs : Fit (a + b)) : cent_Add.f a b = some (a + b, 0) := by
  unfold Fit at ha hb hs
  have e : wrap64 (a + b) = a + b := w64 (by omega) (by omega)
  obtain ⟨x1, x2, x3⟩ := bits_xor_neg a (a + b) ha.1 ha.2 hs.1 hs.2
  obtain ⟨y1, y2, y3⟩ := bits_xor_neg b (a + b) hb.1 hb.2 hs.1 hs.2
  unfold cent_Add.f
  rw [e, if_neg]
  rw [bits_and_neg _ _ x2 x3 y2 y3, x1, y1]
  omega
end Go.Proofs.Ytdckeflggcefbaa.Y
namespace Go.Proofs.Ytdckeflggcefbaa.Y
open Go.RowKit Go.Proofs.YtdckeflggcefbaaW.PrintWords Go.Proofs.YtdckeflggcefbaaW.PrintLast Go.Proofs.YtdckeflggcefbaaW.PrintMore
set_option linter.unusedVariables false
set_option linter.unusedSimpArgs false
theorem swap_app' (P M Q : List S55) (x y : S55) (i j : Int) (hi : i = P.length) (hj : j = P.length + 1 + M.length) :
    ((P ++ (x :: (M ++ y :: Q))).set j.toNat x).set i.toNat y = P ++ (y :: (M ++ x :: Q)) := by
  rw [List.set_comm _ _ (by omega)]
  exact swap_app P M Q x y i j hi hj
theorem Ev.some {α : Type} {f : Nat → Option α} {r : α} (h : ∀ k, f (k + 1) = Option.some r) : Ev f r := ⟨1, fun k hk => by obtain ⟨k, rfl⟩ : ∃ j, k = j + 1 := ⟨k - 1, by omega⟩; exact h k⟩
theorem l47_l1_end {xs : List S55} {a b i j : Int} (k : Nat) (h : ¬ j > a) (hi : 0 ≤ i) (hi2 : i ≤ 1000000000000000000) : fact_Fact_47.l1 (k + 1) xs a b i j = fact_Fact_47.l0 k xs a b (i + 1) := by
  simp only [fact_Fact_47.l1]; rw [if_neg h, w64 (n := i + 1) (by omega) (by omega)]
theorem l47_l1_step {xs : List S55} {a b i j : Int} (k : Nat) (hs : Sm xs.length) (h : j > a) (ha : 0 ≤ a) (hj : j < xs.length) (hi : 0 ≤ i) (hi2 : i ≤ 1000000000000000000) :
    fact_Fact_47.l1 (k + 1) xs a b i j = (fact_Of_1.f k (rd_T55 xs j).f0.f0 (rd_T55 xs j).f0.f1 (rd_T55 xs j).f0.f2 (rd_T55 xs j).f0.f3 (rd_T55 xs j).f0.f4 (rd_T55 xs j).f1 (rd_T55 xs (j - 1)).f0.f0 (rd_T55 xs (j - 1)).f0.f1 (rd_T55 xs (j - 1)).f0.f2 (rd_T55 xs (j - 1)).f0.f3 (rd_T55 xs (j - 1)).f0.f4 (rd_T55 xs (j - 1)).f1).bind fun t => if t < 0 then fact_Fact_47.l1 k ((xs.set j.toNat (rd_T55 xs (j - 1))).set (j - 1).toNat (rd_T55 xs j)) a b i (j - 1) else fact_Fact_47.l0 k xs a b (i + 1) := by
  unfold Sm at hs
  simp only [fact_Fact_47.l1]
  rw [if_pos h, w64 (n := j - 1) (by omega) (by omega), w64 (n := i + 1) (by omega) (by omega), if_pos (by omega), if_pos hj, if_pos (by omega), if_pos (by omega)]
theorem ins_ev : ∀ (n : Nat) (A R P : List S55) (y : S55) (a b i j : Int), A.length = n → Sm (P ++ (A ++ y :: R)).length → a = P.length → j = P.length + A.length → 0 ≤ i → i ≤ 1000000000000000000 →
    ∃ A1 A2, A = A1 ++ A2 ∧ (∀ z ∈ A2, cmpS y z < 0) ∧ (A1 = [] ∨ ∃ A0 z, A1 = A0 ++ [z] ∧ ¬ cmpS y z < 0) ∧
      ∀ r, Ev (fun k => fact_Fact_47.l0 k (P ++ (A1 ++ y :: (A2 ++ R))) a b (i + 1)) r → Ev (fun k => fact_Fact_47.l1 k (P ++ (A ++ y :: R)) a b i j) r
  | 0, A, R, P, y, a, b, i, j, hn, hs, ha, hj, hi, hi2 => by
    obtain rfl := List.length_eq_zero_iff.1 hn
    refine ⟨[], [], rfl, by simp, .inl rfl, fun r h => Ev.step h fun k => ?_⟩
    show fact_Fact_47.l1 (k + 1) _ _ _ _ _ = _
    rw [l47_l1_end k (by simp at hj; omega) hi hi2]
    simp
  | n + 1, A, R, P, y, a, b, i, j, hn, hs, ha, hj, hi, hi2 => by
    obtain ⟨A', z, rfl⟩ : ∃ A' z, A = A' ++ [z] := ⟨A.dropLast, A.getLast (by intro e; simp [e] at hn), (List.dropLast_concat_getLast _).symm⟩
    have hn' : A'.length = n := by simpa using hn
    have hlen : (P ++ ((A' ++ [z]) ++ y :: R)).length = P.length + A'.length + R.length + 2 := by simp; omega
    have hj' : j = P.length + A'.length + 1 := by simp at hj; omega
    have e1 : P ++ ((A' ++ [z]) ++ y :: R) = (P ++ A') ++ (z :: ([] ++ y :: R)) := by simp
    have e2 : P ++ ((A' ++ [z]) ++ y :: R) = (P ++ (A' ++ [z])) ++ (y :: R) := by simp
    have r1 : rd_T55 (P ++ ((A' ++ [z]) ++ y :: R)) j = y := by rw [e2]; exact rd_app _ _ _ _ (by simp; omega)
    have r2 : rd_T55 (P ++ ((A' ++ [z]) ++ y :: R)) (j - 1) = z := by rw [e1]; exact rd_app _ _ _ _ (by simp; omega)
    have step := fun k => l47_l1_step (b := b) (i := i) (a := a) k hs (show j > a by omega) (by omega) (by rw [hlen]; omega) hi hi2
    simp only [r1, r2] at step
    by_cases hc : cmpS y z < 0
    · obtain ⟨A1, A2, e, h1, h2, h3⟩ := ins_ev n A' (z :: R) P y a b i (j - 1) hn' (by unfold Sm at hs ⊢; rw [hlen] at hs; simp; omega) ha (by omega) hi hi2
      refine ⟨A1, A2 ++ [z], by rw [e]; simp, ?_, h2, fun r h => ?_⟩
      · intro q hq
        rcases List.mem_append.1 hq with hq | hq
        · exact h1 q hq
        · obtain rfl := List.mem_singleton.1 hq; exact hc
      · refine Ev.step (Ev.bind (g := fun k t => if t < 0 then fact_Fact_47.l1 k (((P ++ ((A' ++ [z]) ++ y :: R)).set j.toNat z).set (j - 1).toNat y) a b i (j - 1) else fact_Fact_47.l0 k (P ++ ((A' ++ [z]) ++ y :: R)) a b (i + 1)) (of1_ev y z) ?_) step
        have e3 : ((P ++ ((A' ++ [z]) ++ y :: R)).set j.toNat z).set (j - 1).toNat y = P ++ (A' ++ y :: (z :: R)) := by
          rw [e1, swap_app' (P ++ A') [] R z y (j - 1) j (by simp; omega) (by simp; omega)]; simp
        simp only [if_pos hc, e3]
        refine h3 r (h.eq fun k => ?_)
        simp
    · refine ⟨A' ++ [z], [], by simp, by simp, .inr ⟨A', z, rfl, hc⟩, fun r h => ?_⟩
      refine Ev.step (Ev.bind (g := fun k t => if t < 0 then fact_Fact_47.l1 k (((P ++ ((A' ++ [z]) ++ y :: R)).set j.toNat z).set (j - 1).toNat y) a b i (j - 1) else fact_Fact_47.l0 k (P ++ ((A' ++ [z]) ++ y :: R)) a b (i + 1)) (of1_ev y z) ?_) step
      simp only [if_neg hc]
      exact h.eq fun k => by simp
theorem last_le {A0 : List S55} {z : S55} (h : Srt (A0 ++ [z])) : ∀ q ∈ A0 ++ [z], cmpS q z ≤ 0 := by
  intro q hq
  rcases List.mem_append.1 hq with hq | hq
  · exact h.across q hq z (by simp)
  · obtain rfl := List.mem_singleton.1 hq; exact Int.le_of_eq (cmpS_good.refl _)
theorem SS.insert {S0 A1 A2 : List S55} {y : S55} (h : SS S0 (A1 ++ A2)) (h1 : ∀ z ∈ A2, cmpS y z < 0) (h2 : A1 = [] ∨ ∃ A0 z, A1 = A0 ++ [z] ∧ ¬ cmpS y z < 0) : SS (S0 ++ [y]) (A1 ++ y :: A2) := by
  have hle : ∀ q ∈ A1, cmpS q y ≤ 0 := by
    rcases h2 with rfl | ⟨A0, z, rfl, hz⟩
    · simp
    · intro q hq
      exact cmpS_good.trans _ _ _ (last_le h.1.left q hq) (le_of_not_lt hz)
  refine ⟨h.1.left.app (List.pairwise_cons.2 ⟨fun z hz => by have := h1 z hz; omega, h.1.right⟩) ?_, fun x => ?_⟩
  · intro q hq z hz
    rcases List.mem_cons.1 hz with rfl | hz
    · exact hle q hq
    · exact h.1.across q hq z hz
  · have e := filter_cross (a := A2) (b := [y]) (fun z hz q hq => by obtain rfl := List.mem_singleton.1 hq; exact h1 z hz) x
    rw [show A1 ++ y :: A2 = A1 ++ ([y] ++ A2) by simp, List.filter_append, e, List.filter_append, ← List.append_assoc, ← List.filter_append, h.2 x, List.filter_append]
theorem l47_ev : ∀ (T S S0 P Q : List S55) (a b i : Int), SS S0 S → Sm (P ++ (S ++ (T ++ Q))).length → a = P.length → i = P.length + S.length → b = i + T.length →
    ∃ S', SS (S0 ++ T) S' ∧ S'.length = S.length + T.length ∧ Ev (fun k => fact_Fact_47.l0 k (P ++ (S ++ (T ++ Q))) a b i) (P ++ (S' ++ Q))
  | [], S, S0, P, Q, a, b, i, h, hs, ha, hi, hb => by
    refine ⟨S, by simpa using h, by simp, Ev.some fun k => ?_⟩
    simp only [fact_Fact_47.l0]
    rw [if_neg (by simp at hb; omega)]
    simp
  | y :: T, S, S0, P, Q, a, b, i, h, hs, ha, hi, hb => by
    have hs' : P.length + S.length + T.length + Q.length + 1 ≤ 1000000000000000000 := by unfold Sm at hs; simp at hs; omega
    obtain ⟨A1, A2, e, h1, h2, h3⟩ := ins_ev _ S (T ++ Q) P y a b i i rfl (by simpa using hs) ha hi (by omega) (by omega)
    have hl : S.length = A1.length + A2.length := by rw [e]; simp
    obtain ⟨S', g1, g2, g3⟩ := l47_ev T (A1 ++ y :: A2) (S0 ++ [y]) P Q a b (i + 1) (SS.insert (e ▸ h) h1 h2) (by unfold Sm; simp; omega) ha (by simp; omega) (by simp at hb; omega)
    refine ⟨S', by simpa using g1, by rw [g2]; simp; omega, ?_⟩
    refine Ev.step (g := fun k => fact_Fact_47.l1 k (P ++ (S ++ y :: (T ++ Q))) a b i i) (h3 _ (g3.eq fun k => by simp)) fun k => ?_
    show fact_Fact_47.l0 (k + 1) _ _ _ _ = _
    simp only [fact_Fact_47.l0]
    rw [if_pos (by simp at hb; omega)]
    simp
theorem f47_ev (T P Q : List S55) (a b : Int) (hs : Sm (P ++ (T ++ Q)).length) (ha : a = P.length) (hb : b = a + T.length) :
    ∃ S', SS T S' ∧ S'.length = T.length ∧ Ev (fun k => fact_Fact_47.f k (P ++ (T ++ Q)) a b) (P ++ (S' ++ Q)) := by
  have hs' : P.length + T.length + Q.length ≤ 1000000000000000000 := by unfold Sm at hs; simp at hs; omega
  unfold fact_Fact_47.f
  simp only [w64 (n := a + 1) (by omega) (by omega)]
  cases T with
  | nil =>
    refine ⟨[], SS.refl List.Pairwise.nil, rfl, Ev.some fun k => ?_⟩
    simp only [fact_Fact_47.l0]
    rw [if_neg (by simp at hb; omega)]
  | cons x T =>
    obtain ⟨S', g1, g2, g3⟩ := l47_ev T [x] [x] P Q a b (a + 1) (SS.refl (List.pairwise_singleton _ _)) (by simpa using hs) ha (by simp; omega) (by simp at hb; omega)
    exact ⟨S', by simpa using g1, by rw [g2]; simp; omega, g3.eq fun k => by simp⟩
end Go.Proofs.Ytdckeflggcefbaa.Y
namespace Go.Proofs.Ytdckeflggcefbaa.Y
open Go.RowKit Go.Proofs.YtdckeflggcefbaaW.PrintWords Go.Proofs.YtdckeflggcefbaaW.PrintLast Go.Proofs.YtdckeflggcefbaaW.PrintMore
attribute [local go_sem] max2_int min2_int max_two min_two max_three min_three max_four min_four   -- for this text's walks alone
set_option linter.unusedVariables false
set_option linter.unusedSimpArgs false

/-! ### fact_Fact_48: function 48 -/
mutual
def fact_Fact_48.l0 : Nat → List (S55) → Int → Int → Int → Option ((List (S55)))
 | 0, _, _, _, _ => none
 | k + 1, x0, x1, x10, x11 => if x10 < x11 then (if 0 ≤ (wrap64 ((IntKind.u64.wrap (wrap64 (x10 + x11))) / 2)) then (if (wrap64 ((IntKind.u64.wrap (wrap64 (x10 + x11))) / 2)) < (x0.length : Int) then (if 0 ≤ x1 then (if x1 < (x0.length : Int) then ((fact_Of_1.f k ((rd_T55 x0 (wrap64 ((IntKind.u64.wrap (wrap64 (x10 + x11))) / 2))).f0.f0) ((rd_T55 x0 (wrap64 ((IntKind.u64.wrap (wrap64 (x10 + x11))) / 2))).f0.f1) ((rd_T55 x0 (wrap64 ((IntKind.u64.wrap (wrap64 (x10 + x11))) / 2))).f0.f2) ((rd_T55 x0 (wrap64 ((IntKind.u64.wrap (wrap64 (x10 + x11))) / 2))).f0.f3) ((rd_T55 x0 (wrap64 ((IntKind.u64.wrap (wrap64 (x10 + x11))) / 2))).f0.f4) ((rd_T55 x0 (wrap64 ((IntKind.u64.wrap (wrap64 (x10 + x11))) / 2))).f1) ((rd_T55 x0 x1).f0.f0) ((rd_T55 x0 x1).f0.f1) ((rd_T55 x0 x1).f0.f2) ((rd_T55 x0 x1).f0.f3) ((rd_T55 x0 x1).f0.f4) ((rd_T55 x0 x1).f1)).bind fun t137 => (if t137 < 0 then (fact_Fact_48.l0 k x0 x1 (wrap64 ((wrap64 ((IntKind.u64.wrap (wrap64 (x10 + x11))) / 2)) + 1)) x11) else (fact_Fact_48.l0 k x0 x1 x10 (wrap64 ((IntKind.u64.wrap (wrap64 (x10 + x11))) / 2))))) else (none)) else (none)) else (none)) else (none)) else (fact_Fact_48.l1 k x0 x10 x1)
def fact_Fact_48.l1 : Nat → List (S55) → Int → Int → Option ((List (S55)))
 | 0, _, _, _ => none
 | k + 1, x0, x10, x13 => if x13 < (wrap64 (x10 - 1)) then (if 0 ≤ (wrap64 (x13 + 1)) then (if (wrap64 (x13 + 1)) < (x0.length : Int) then (if 0 ≤ x13 then (if x13 < (x0.length : Int) then (fact_Fact_48.l1 k ((x0.set (x13 : Int).toNat (⟨(⟨(rd_T55 x0 (wrap64 (x13 + 1))).f0.f0, (rd_T55 x0 (wrap64 (x13 + 1))).f0.f1, (rd_T55 x0 (wrap64 (x13 + 1))).f0.f2, (rd_T55 x0 (wrap64 (x13 + 1))).f0.f3, (rd_T55 x0 (wrap64 (x13 + 1))).f0.f4⟩ : S44), (rd_T55 x0 (wrap64 (x13 + 1))).f1⟩ : S55)).set ((wrap64 (x13 + 1)) : Int).toNat (⟨(⟨(rd_T55 x0 x13).f0.f0, (rd_T55 x0 x13).f0.f1, (rd_T55 x0 x13).f0.f2, (rd_T55 x0 x13).f0.f3, (rd_T55 x0 x13).f0.f4⟩ : S44), (rd_T55 x0 x13).f1⟩ : S55)) x10 (wrap64 (x13 + 1))) else (none)) else (none)) else (none)) else (none)) else (some x0)
def fact_Fact_48.l2 : Nat → List (S55) → Int → Int → Int → Option ((List (S55)))
 | 0, _, _, _, _ => none
 | k + 1, x0, x2, x14, x15 => if x14 < x15 then (if 0 ≤ x2 then (if x2 < (x0.length : Int) then (if 0 ≤ (wrap64 ((IntKind.u64.wrap (wrap64 (x14 + x15))) / 2)) then (if (wrap64 ((IntKind.u64.wrap (wrap64 (x14 + x15))) / 2)) < (x0.length : Int) then ((fact_Of_1.f k ((rd_T55 x0 x2).f0.f0) ((rd_T55 x0 x2).f0.f1) ((rd_T55 x0 x2).f0.f2) ((rd_T55 x0 x2).f0.f3) ((rd_T55 x0 x2).f0.f4) ((rd_T55 x0 x2).f1) ((rd_T55 x0 (wrap64 ((IntKind.u64.wrap (wrap64 (x14 + x15))) / 2))).f0.f0) ((rd_T55 x0 (wrap64 ((IntKind.u64.wrap (wrap64 (x14 + x15))) / 2))).f0.f1) ((rd_T55 x0 (wrap64 ((IntKind.u64.wrap (wrap64 (x14 + x15))) / 2))).f0.f2) ((rd_T55 x0 (wrap64 ((IntKind.u64.wrap (wrap64 (x14 + x15))) / 2))).f0.f3) ((rd_T55 x0 (wrap64 ((IntKind.u64.wrap (wrap64 (x14 + x15))) / 2))).f0.f4) ((rd_T55 x0 (wrap64 ((IntKind.u64.wrap (wrap64 (x14 + x15))) / 2))).f1)).bind fun t144 => (if t144 < 0 then (fact_Fact_48.l2 k x0 x2 x14 (wrap64 ((IntKind.u64.wrap (wrap64 (x14 + x15))) / 2))) else (fact_Fact_48.l2 k x0 x2 (wrap64 ((wrap64 ((IntKind.u64.wrap (wrap64 (x14 + x15))) / 2)) + 1)) x15))) else (none)) else (none)) else (none)) else (none)) else (fact_Fact_48.l3 k x0 x14 x2)
def fact_Fact_48.l3 : Nat → List (S55) → Int → Int → Option ((List (S55)))
 | 0, _, _, _ => none
 | k + 1, x0, x14, x17 => if x17 > x14 then (if 0 ≤ (wrap64 (x17 - 1)) then (if (wrap64 (x17 - 1)) < (x0.length : Int) then (if 0 ≤ x17 then (if x17 < (x0.length : Int) then (fact_Fact_48.l3 k ((x0.set (x17 : Int).toNat (⟨(⟨(rd_T55 x0 (wrap64 (x17 - 1))).f0.f0, (rd_T55 x0 (wrap64 (x17 - 1))).f0.f1, (rd_T55 x0 (wrap64 (x17 - 1))).f0.f2, (rd_T55 x0 (wrap64 (x17 - 1))).f0.f3, (rd_T55 x0 (wrap64 (x17 - 1))).f0.f4⟩ : S44), (rd_T55 x0 (wrap64 (x17 - 1))).f1⟩ : S55)).set ((wrap64 (x17 - 1)) : Int).toNat (⟨(⟨(rd_T55 x0 x17).f0.f0, (rd_T55 x0 x17).f0.f1, (rd_T55 x0 x17).f0.f2, (rd_T55 x0 x17).f0.f3, (rd_T55 x0 x17).f0.f4⟩ : S44), (rd_T55 x0 x17).f1⟩ : S55)) x14 (wrap64 (x17 - 1))) else (none)) else (none)) else (none)) else (none)) else (some x0)
def fact_Fact_48.j4 : Nat → List (S55) → Int → Int → Int → Int → Int → Int → Int → Option ((List (S55)))
 | 0, _, _, _, _, _, _, _, _ => none
 | k + 1, x0, x1, x2, x3, x18, x19, x20, x21 => fact_Fact_48.l4 k x0 x1 x2 x3 x18 x19 x20 x21 (wrap64 (x19 - 1))
def fact_Fact_48.l4 : Nat → List (S55) → Int → Int → Int → Int → Int → Int → Int → Int → Option ((List (S55)))
 | 0, _, _, _, _, _, _, _, _, _ => none
 | k + 1, x0, x1, x2, x3, x18, x19, x20, x21, x22 => if x20 < x21 then (if 0 ≤ (wrap64 (x22 - (wrap64 ((IntKind.u64.wrap (wrap64 (x20 + x21))) / 2)))) then (if (wrap64 (x22 - (wrap64 ((IntKind.u64.wrap (wrap64 (x20 + x21))) / 2)))) < (x0.length : Int) then (if 0 ≤ (wrap64 ((IntKind.u64.wrap (wrap64 (x20 + x21))) / 2)) then (if (wrap64 ((IntKind.u64.wrap (wrap64 (x20 + x21))) / 2)) < (x0.length : Int) then ((fact_Of_1.f k ((rd_T55 x0 (wrap64 (x22 - (wrap64 ((IntKind.u64.wrap (wrap64 (x20 + x21))) / 2))))).f0.f0) ((rd_T55 x0 (wrap64 (x22 - (wrap64 ((IntKind.u64.wrap (wrap64 (x20 + x21))) / 2))))).f0.f1) ((rd_T55 x0 (wrap64 (x22 - (wrap64 ((IntKind.u64.wrap (wrap64 (x20 + x21))) / 2))))).f0.f2) ((rd_T55 x0 (wrap64 (x22 - (wrap64 ((IntKind.u64.wrap (wrap64 (x20 + x21))) / 2))))).f0.f3) ((rd_T55 x0 (wrap64 (x22 - (wrap64 ((IntKind.u64.wrap (wrap64 (x20 + x21))) / 2))))).f0.f4) ((rd_T55 x0 (wrap64 (x22 - (wrap64 ((IntKind.u64.wrap (wrap64 (x20 + x21))) / 2))))).f1) ((rd_T55 x0 (wrap64 ((IntKind.u64.wrap (wrap64 (x20 + x21))) / 2))).f0.f0) ((rd_T55 x0 (wrap64 ((IntKind.u64.wrap (wrap64 (x20 + x21))) / 2))).f0.f1) ((rd_T55 x0 (wrap64 ((IntKind.u64.wrap (wrap64 (x20 + x21))) / 2))).f0.f2) ((rd_T55 x0 (wrap64 ((IntKind.u64.wrap (wrap64 (x20 + x21))) / 2))).f0.f3) ((rd_T55 x0 (wrap64 ((IntKind.u64.wrap (wrap64 (x20 + x21))) / 2))).f0.f4) ((rd_T55 x0 (wrap64 ((IntKind.u64.wrap (wrap64 (x20 + x21))) / 2))).f1)).bind fun t151 => (if t151 < 0 then (fact_Fact_48.l4 k x0 x1 x2 x3 x18 x19 x20 (wrap64 ((IntKind.u64.wrap (wrap64 (x20 + x21))) / 2)) x22) else (fact_Fact_48.l4 k x0 x1 x2 x3 x18 x19 (wrap64 ((wrap64 ((IntKind.u64.wrap (wrap64 (x20 + x21))) / 2)) + 1)) x21 x22))) else (none)) else (none)) else (none)) else (none)) else (if x20 < x2 then (fact_Fact_48.j6 k x0 x1 x2 x3 x18 x20 (wrap64 (x19 - x20)) (decide (x2 < (wrap64 (x19 - x20))))) else (fact_Fact_48.j6 k x0 x1 x2 x3 x18 x20 (wrap64 (x19 - x20)) false))
def fact_Fact_48.j6 : Nat → List (S55) → Int → Int → Int → Int → Int → Int → Bool → Option ((List (S55)))
 | 0, _, _, _, _, _, _, _, _ => none
 | k + 1, x0, x1, x2, x3, x18, x20, x24, x185 => if x185 = true then ((fact_Fact_50.f k x0 x20 x2 x24).bind fun t152 => (fact_Fact_48.j7 k t152 x1 x3 x18 x20 x24)) else (fact_Fact_48.j7 k x0 x1 x3 x18 x20 x24)
def fact_Fact_48.j7 : Nat → List (S55) → Int → Int → Int → Int → Int → Option ((List (S55)))
 | 0, _, _, _, _, _, _ => none
 | k + 1, x0, x1, x3, x18, x20, x24 => if x1 < x20 then (fact_Fact_48.j8 k x0 x1 x3 x18 x20 x24 (decide (x20 < x18))) else (fact_Fact_48.j8 k x0 x1 x3 x18 x20 x24 false)
def fact_Fact_48.j8 : Nat → List (S55) → Int → Int → Int → Int → Int → Bool → Option ((List (S55)))
 | 0, _, _, _, _, _, _, _ => none
 | k + 1, x0, x1, x3, x18, x20, x24, x199 => if x199 = true then ((fact_Fact_48.f k x0 x1 x20 x18).bind fun t153 => (if x18 < x24 then (if x24 < x3 then ((fact_Fact_48.f k t153 x18 x24 x3).bind fun t154 => (some t154)) else (some t153)) else (some t153))) else (if x18 < x24 then (if x24 < x3 then ((fact_Fact_48.f k x0 x18 x24 x3).bind fun t155 => (some t155)) else (some x0)) else (some x0))
def fact_Fact_48.f : Nat → List (S55) → Int → Int → Int → Option ((List (S55)))
 | 0, _, _, _, _ => none
 | k + 1, l0, a1, a2, a3 => if (wrap64 (a2 - a1)) = 1 then (fact_Fact_48.l0 k l0 a1 a2 a3) else (if (wrap64 (a3 - a2)) = 1 then (fact_Fact_48.l2 k l0 a2 a1 a2) else (if a2 > (wrap64 ((IntKind.u64.wrap (wrap64 (a1 + a3))) / 2)) then (fact_Fact_48.j4 k l0 a1 a2 a3 (wrap64 ((IntKind.u64.wrap (wrap64 (a1 + a3))) / 2)) (wrap64 ((wrap64 ((IntKind.u64.wrap (wrap64 (a1 + a3))) / 2)) + a2)) (wrap64 ((wrap64 ((wrap64 ((IntKind.u64.wrap (wrap64 (a1 + a3))) / 2)) + a2)) - a3)) (wrap64 ((IntKind.u64.wrap (wrap64 (a1 + a3))) / 2))) else (fact_Fact_48.j4 k l0 a1 a2 a3 (wrap64 ((IntKind.u64.wrap (wrap64 (a1 + a3))) / 2)) (wrap64 ((wrap64 ((IntKind.u64.wrap (wrap64 (a1 + a3))) / 2)) + a2)) a1 a2)))
end
theorem fact_Fact_48.mono_l : ∀ k, (∀ y0 y1 y2 y3, LeO (fact_Fact_48.f k y0 y1 y2 y3) (fact_Fact_48.f (k + 1) y0 y1 y2 y3)) ∧ (∀ y0 y1 y2 y3, LeO (fact_Fact_48.l0 k y0 y1 y2 y3) (fact_Fact_48.l0 (k + 1) y0 y1 y2 y3)) ∧ (∀ y0 y1 y2, LeO (fact_Fact_48.l1 k y0 y1 y2) (fact_Fact_48.l1 (k + 1) y0 y1 y2)) ∧ (∀ y0 y1 y2 y3, LeO (fact_Fact_48.l2 k y0 y1 y2 y3) (fact_Fact_48.l2 (k + 1) y0 y1 y2 y3)) ∧ (∀ y0 y1 y2, LeO (fact_Fact_48.l3 k y0 y1 y2) (fact_Fact_48.l3 (k + 1) y0 y1 y2)) ∧ (∀ y0 y1 y2 y3 y4 y5 y6 y7, LeO (fact_Fact_48.j4 k y0 y1 y2 y3 y4 y5 y6 y7) (fact_Fact_48.j4 (k + 1) y0 y1 y2 y3 y4 y5 y6 y7)) ∧ (∀ y0 y1 y2 y3 y4 y5 y6 y7 y8, LeO (fact_Fact_48.l4 k y0 y1 y2 y3 y4 y5 y6 y7 y8) (fact_Fact_48.l4 (k + 1) y0 y1 y2 y3 y4 y5 y6 y7 y8)) ∧ (∀ y0 y1 y2 y3 y4 y5 y6 y7, LeO (fact_Fact_48.j6 k y0 y1 y2 y3 y4 y5 y6 y7) (fact_Fact_48.j6 (k + 1) y0 y1 y2 y3 y4 y5 y6 y7)) ∧ (∀ y0 y1 y2 y3 y4 y5, LeO (fact_Fact_48.j7 k y0 y1 y2 y3 y4 y5) (fact_Fact_48.j7 (k + 1) y0 y1 y2 y3 y4 y5)) ∧ (∀ y0 y1 y2 y3 y4 y5 y6, LeO (fact_Fact_48.j8 k y0 y1 y2 y3 y4 y5 y6) (fact_Fact_48.j8 (k + 1) y0 y1 y2 y3 y4 y5 y6))
 | 0 => ⟨fun _ _ _ _ r h => by simp [fact_Fact_48.f] at h, fun _ _ _ _ r h => by simp [fact_Fact_48.l0] at h, fun _ _ _ r h => by simp [fact_Fact_48.l1] at h, fun _ _ _ _ r h => by simp [fact_Fact_48.l2] at h, fun _ _ _ r h => by simp [fact_Fact_48.l3] at h, fun _ _ _ _ _ _ _ _ r h => by simp [fact_Fact_48.j4] at h, fun _ _ _ _ _ _ _ _ _ r h => by simp [fact_Fact_48.l4] at h, fun _ _ _ _ _ _ _ _ r h => by simp [fact_Fact_48.j6] at h, fun _ _ _ _ _ _ r h => by simp [fact_Fact_48.j7] at h, fun _ _ _ _ _ _ _ r h => by simp [fact_Fact_48.j8] at h⟩
 | k + 1 => by
  obtain ⟨ih0, ih1, ih2, ih3, ih4, ih5, ih6, ih7, ih8, ih9⟩ := fact_Fact_48.mono_l k
  refine ⟨?_, ?_, ?_, ?_, ?_, ?_, ?_, ?_, ?_, ?_⟩
  ·intro y0 y1 y2 y3
   unfold fact_Fact_48.f
   repeat' first
   | (with_reducible exact ih0 _ _ _ _)
   | (with_reducible exact ih1 _ _ _ _)
   | (with_reducible exact ih2 _ _ _)
   | (with_reducible exact ih3 _ _ _ _)
   | (with_reducible exact ih4 _ _ _)
   | (with_reducible exact ih5 _ _ _ _ _ _ _ _)
   | (with_reducible exact ih6 _ _ _ _ _ _ _ _ _)
   | (with_reducible exact ih7 _ _ _ _ _ _ _ _)
   | (with_reducible exact ih8 _ _ _ _ _ _)
   | (with_reducible exact ih9 _ _ _ _ _ _ _)
   | (with_reducible exact fact_Fact_50.mono _ _ _ _ _)
   | (with_reducible exact fact_Of_1.mono _ _ _ _ _ _ _ _ _ _ _ _ _)
   | (with_reducible exact LeO.refl _)
   | (with_reducible exact LeO.none _)
   | (with_reducible refine LeO.ite ?_ ?_)
   | (with_reducible refine LeO.bind ?_ (fun _ => ?_))
   | exact ih0 _ _ _ _
   | exact ih1 _ _ _ _
   | exact ih2 _ _ _
   | exact ih3 _ _ _ _
   | exact ih4 _ _ _
   | exact ih5 _ _ _ _ _ _ _ _
   | exact ih6 _ _ _ _ _ _ _ _ _
   | exact ih7 _ _ _ _ _ _ _ _
   | exact ih8 _ _ _ _ _ _
   | exact ih9 _ _ _ _ _ _ _
   | exact fact_Fact_50.mono _ _ _ _ _
   | exact fact_Of_1.mono _ _ _ _ _ _ _ _ _ _ _ _ _
   | exact LeO.none _
   | refine LeO.ite ?_ ?_
   | refine LeO.bind ?_ (fun _ => ?_)
  ·intro y0 y1 y2 y3
   unfold fact_Fact_48.l0
   repeat' first
   | (with_reducible exact ih0 _ _ _ _)
   | (with_reducible exact ih1 _ _ _ _)
   | (with_reducible exact ih2 _ _ _)
   | (with_reducible exact ih3 _ _ _ _)
   | (with_reducible exact ih4 _ _ _)
   | (with_reducible exact ih5 _ _ _ _ _ _ _ _)
   | (with_reducible exact ih6 _ _ _ _ _ _ _ _ _)
   | (with_reducible exact ih7 _ _ _ _ _ _ _ _)
   | (with_reducible exact ih8 _ _ _ _ _ _)
   | (with_reducible exact ih9 _ _ _ _ _ _ _)
   | (with_reducible exact fact_Fact_50.mono _ _ _ _ _)
   | (with_reducible exact fact_Of_1.mono _ _ _ _ _ _ _ _ _ _ _ _ _)
   | (with_reducible exact LeO.refl _)
   | (with_reducible exact LeO.none _)
   | (with_reducible refine LeO.ite ?_ ?_)
   | (with_reducible refine LeO.bind ?_ (fun _ => ?_))
   | exact ih0 _ _ _ _
   | exact ih1 _ _ _ _
   | exact ih2 _ _ _
   | exact ih3 _ _ _ _
   | exact ih4 _ _ _
   | exact ih5 _ _ _ _ _ _ _ _
   | exact ih6 _ _ _ _ _ _ _ _ _
   | exact ih7 _ _ _ _ _ _ _ _
   | exact ih8 _ _ _ _ _ _
   | exact ih9 _ _ _ _ _ _ _
   | exact fact_Fact_50.mono _ _ _ _ _
   | exact fact_Of_1.mono _ _ _ _ _ _ _ _ _ _ _ _ _
   | exact LeO.none _
   | refine LeO.ite ?_ ?_
   | refine LeO.bind ?_ (fun _ => ?_)
  ·intro y0 y1 y2
   unfold fact_Fact_48.l1
   repeat' first
   | (with_reducible exact ih0 _ _ _ _)
   | (with_reducible exact ih1 _ _ _ _)
   | (with_reducible exact ih2 _ _ _)
   | (with_reducible exact ih3 _ _ _ _)
   | (with_reducible exact ih4 _ _ _)
   | (with_reducible exact ih5 _ _ _ _ _ _ _ _)
   | (with_reducible exact ih6 _ _ _ _ _ _ _ _ _)
   | (with_reducible exact ih7 _ _ _ _ _ _ _ _)
   | (with_reducible exact ih8 _ _ _ _ _ _)
   | (with_reducible exact ih9 _ _ _ _ _ _ _)
   | (with_reducible exact fact_Fact_50.mono _ _ _ _ _)
   | (with_reducible exact fact_Of_1.mono _ _ _ _ _ _ _ _ _ _ _ _ _)
   | (with_reducible exact LeO.refl _)
   | (with_reducible exact LeO.none _)
   | (with_reducible refine LeO.ite ?_ ?_)
   | (with_reducible refine LeO.bind ?_ (fun _ => ?_))
   | exact ih0 _ _ _ _
   | exact ih1 _ _ _ _
   | exact ih2 _ _ _
   | exact ih3 _ _ _ _
   | exact ih4 _ _ _
   | exact ih5 _ _ _ _ _ _ _ _
   | exact ih6 _ _ _ _ _ _ _ _ _
   | exact ih7 _ _ _ _ _ _ _ _
   | exact ih8 _ _ _ _ _ _
   | exact ih9 _ _ _ _ _ _ _
   | exact fact_Fact_50.mono _ _ _ _ _
   | exact fact_Of_1.mono _ _ _ _ _ _ _ _ _ _ _ _ _
   | exact LeO.none _
   | refine LeO.ite ?_ ?_
   | refine LeO.bind ?_ (fun _ => ?_)
  ·intro y0 y1 y2 y3
   unfold fact_Fact_48.l2
   repeat' first
   | (with_reducible exact ih0 _ _ _ _)
   | (with_reducible exact ih1 _ _ _ _)
   | (with_reducible exact ih2 _ _ _)
   | (with_reducible exact ih3 _ _ _ _)
   | (with_reducible exact ih4 _ _ _)
   | (with_reducible exact ih5 _ _ _ _ _ _ _ _)
   | (with_reducible exact ih6 _ _ _ _ _ _ _ _ _)
   | (with_reducible exact ih7 _ _ _ _ _ _ _ _)
   | (with_reducible exact ih8 _ _ _ _ _ _)
   | (with_reducible exact ih9 _ _ _ _ _ _ _)
   | (with_reducible exact fact_Fact_50.mono _ _ _ _ _)
   | (with_reducible exact fact_Of_1.mono _ _ _ _ _ _ _ _ _ _ _ _ _)
   | (with_reducible exact LeO.refl _)
   | (with_reducible exact LeO.none _)
   | (with_reducible refine LeO.ite ?_ ?_)
   | (with_reducible refine LeO.bind ?_ (fun _ => ?_))
   | exact ih0 _ _ _ _
   | exact ih1 _ _ _ _
   | exact ih2 _ _ _
   | exact ih3 _ _ _ _
   | exact ih4 _ _ _
   | exact ih5 _ _ _ _ _ _ _ _
   | exact ih6 _ _ _ _ _ _ _ _ _
   | exact ih7 _ _ _ _ _ _ _ _
   | exact ih8 _ _ _ _ _ _
   | exact ih9 _ _ _ _ _ _ _
   | exact fact_Fact_50.mono _ _ _ _ _
   | exact fact_Of_1.mono _ _ _ _ _ _ _ _ _ _ _ _ _
   | exact LeO.none _
   | refine LeO.ite ?_ ?_
   | refine LeO.bind ?_ (fun _ => ?_)
  ·intro y0 y1 y2
   unfold fact_Fact_48.l3
   repeat' first
   | (with_reducible exact ih0 _ _ _ _)
   | (with_reducible exact ih1 _ _ _ _)
   | (with_reducible exact ih2 _ _ _)
   | (with_reducible exact ih3 _ _ _ _)
   | (with_reducible exact ih4 _ _ _)
   | (with_reducible exact ih5 _ _ _ _ _ _ _ _)
   | (with_reducible exact ih6 _ _ _ _ _ _ _ _ _)
   | (with_reducible exact ih7 _ _ _ _ _ _ _ _)
   | (with_reducible exact ih8 _ _ _ _ _ _)
   | (with_reducible exact ih9 _ _ _ _ _ _ _)
   | (with_reducible exact fact_Fact_50.mono _ _ _ _ _)
   | (with_reducible exact fact_Of_1.mono _ _ _ _ _ _ _ _ _ _ _ _ _)
   | (with_reducible exact LeO.refl _)
   | (with_reducible exact LeO.none _)
   | (with_reducible refine LeO.ite ?_ ?_)
   | (with_reducible refine LeO.bind ?_ (fun _ => ?_))
   | exact ih0 _ _ _ _
   | exact ih1 _ _ _ _
   | exact ih2 _ _ _
   | exact ih3 _ _ _ _
   | exact ih4 _ _ _
   | exact ih5 _ _ _ _ _ _ _ _
   | exact ih6 _ _ _ _ _ _ _ _ _
   | exact ih7 _ _ _ _ _ _ _ _
   | exact ih8 _ _ _ _ _ _
   | exact ih9 _ _ _ _ _ _ _
   | exact fact_Fact_50.mono _ _ _ _ _
   | exact fact_Of_1.mono _ _ _ _ _ _ _ _ _ _ _ _ _
   | exact LeO.none _
   | refine LeO.ite ?_ ?_
   | refine LeO.bind ?_ (fun _ => ?_)
  ·intro y0 y1 y2 y3 y4 y5 y6 y7
   unfold fact_Fact_48.j4
   repeat' first
   | (with_reducible exact ih0 _ _ _ _)
   | (with_reducible exact ih1 _ _ _ _)
   | (with_reducible exact ih2 _ _ _)
   | (with_reducible exact ih3 _ _ _ _)
   | (with_reducible exact ih4 _ _ _)
   | (with_reducible exact ih5 _ _ _ _ _ _ _ _)
   | (with_reducible exact ih6 _ _ _ _ _ _ _ _ _)
   | (with_reducible exact ih7 _ _ _ _ _ _ _ _)
   | (with_reducible exact ih8 _ _ _ _ _ _)
   | (with_reducible exact ih9 _ _ _ _ _ _ _)
   | (with_reducible exact fact_Fact_50.mono _ _ _ _ _)
   | (with_reducible exact fact_Of_1.mono _ _ _ _ _ _ _ _ _ _ _ _ _)
   | (with_reducible exact LeO.refl _)
   | (with_reducible exact LeO.none _)
   | (with_reducible refine LeO.ite ?_ ?_)
   | (with_reducible refine LeO.bind ?_ (fun _ => ?_))
   | exact ih0 _ _ _ _
   | exact ih1 _ _ _ _
   | exact ih2 _ _ _
   | exact ih3 _ _ _ _
   | exact ih4 _ _ _
   | exact ih5 _ _ _ _ _ _ _ _
   | exact ih6 _ _ _ _ _ _ _ _ _
   | exact ih7 _ _ _ _ _ _ _ _
   | exact ih8 _ _ _ _ _ _
   | exact ih9 _ _ _ _ _ _ _
   | exact fact_Fact_50.mono _ _ _ _ _
   | exact fact_Of_1.mono _ _ _ _ _ _ _ _ _ _ _ _ _
   | exact LeO.none _
   | refine LeO.ite ?_ ?_
   | refine LeO.bind ?_ (fun _ => ?_)
  ·intro y0 y1 y2 y3 y4 y5 y6 y7 y8
   unfold fact_Fact_48.l4
   repeat' first
   | (with_reducible exact ih0 _ _ _ _)
   | (with_reducible exact ih1 _ _ _ _)
   | (with_reducible exact ih2 _ _ _)
   | (with_reducible exact ih3 _ _ _ _)
   | (with_reducible exact ih4 _ _ _)
   | (with_reducible exact ih5 _ _ _ _ _ _ _ _)
   | (with_reducible exact ih6 _ _ _ _ _ _ _ _ _)
   | (with_reducible exact ih7 _ _ _ _ _ _ _ _)
   | (with_reducible exact ih8 _ _ _ _ _ _)
   | (with_reducible exact ih9 _ _ _ _ _ _ _)
   | (with_reducible exact fact_Fact_50.mono _ _ _ _ _)
   | (with_reducible exact fact_Of_1.mono _ _ _ _ _ _ _ _ _ _ _ _ _)
   | (with_reducible exact LeO.refl _)
   | (with_reducible exact LeO.none _)
   | (with_reducible refine LeO.ite ?_ ?_)
   | (with_reducible refine LeO.bind ?_ (fun _ => ?_))
   | exact ih0 _ _ _ _
   | exact ih1 _ _ _ _
   | exact ih2 _ _ _
   | exact ih3 _ _ _ _
   | exact ih4 _ _ _
   | exact ih5 _ _ _ _ _ _ _ _
   | exact ih6 _ _ _ _ _ _ _ _ _
   | exact ih7 _ _ _ _ _ _ _ _
   | exact ih8 _ _ _ _ _ _
   | exact ih9 _ _ _ _ _ _ _
   | exact fact_Fact_50.mono _ _ _ _ _
   | exact fact_Of_1.mono _ _ _ _ _ _ _ _ _ _ _ _ _
   | exact LeO.none _
   | refine LeO.ite ?_ ?_
   | refine LeO.bind ?_ (fun _ => ?_)
  ·intro y0 y1 y2 y3 y4 y5 y6 y7
   unfold fact_Fact_48.j6
   repeat' first
   | (with_reducible exact ih0 _ _ _ _)
   | (with_reducible exact ih1 _ _ _ _)
   | (with_reducible exact ih2 _ _ _)
   | (with_reducible exact ih3 _ _ _ _)
   | (with_reducible exact ih4 _ _ _)
   | (with_reducible exact ih5 _ _ _ _ _ _ _ _)
   | (with_reducible exact ih6 _ _ _ _ _ _ _ _ _)
   | (with_reducible exact ih7 _ _ _ _ _ _ _ _)
   | (with_reducible exact ih8 _ _ _ _ _ _)
   | (with_reducible exact ih9 _ _ _ _ _ _ _)
   | (with_reducible exact fact_Fact_50.mono _ _ _ _ _)
   | (with_reducible exact fact_Of_1.mono _ _ _ _ _ _ _ _ _ _ _ _ _)
   | (with_reducible exact LeO.refl _)
   | (with_reducible exact LeO.none _)
   | (with_reducible refine LeO.ite ?_ ?_)
   | (with_reducible refine LeO.bind ?_ (fun _ => ?_))
   | exact ih0 _ _ _ _
   | exact ih1 _ _ _ _
   | exact ih2 _ _ _
   | exact ih3 _ _ _ _
   | exact ih4 _ _ _
   | exact ih5 _ _ _ _ _ _ _ _
   | exact ih6 _ _ _ _ _ _ _ _ _
   | exact ih7 _ _ _ _ _ _ _ _
   | exact ih8 _ _ _ _ _ _
   | exact ih9 _ _ _ _ _ _ _
   | exact fact_Fact_50.mono _ _ _ _ _
   | exact fact_Of_1.mono _ _ _ _ _ _ _ _ _ _ _ _ _
   | exact LeO.none _
   | refine LeO.ite ?_ ?_
   | refine LeO.bind ?_ (fun _ => ?_)
  ·intro y0 y1 y2 y3 y4 y5
   unfold fact_Fact_48.j7
   repeat' first
   | (with_reducible exact ih0 _ _ _ _)
   | (with_reducible exact ih1 _ _ _ _)
   | (with_reducible exact ih2 _ _ _)
   | (with_reducible exact ih3 _ _ _ _)
   | (with_reducible exact ih4 _ _ _)
   | (with_reducible exact ih5 _ _ _ _ _ _ _ _)
   | (with_reducible exact ih6 _ _ _ _ _ _ _ _ _)
   | (with_reducible exact ih7 _ _ _ _ _ _ _ _)
   | (with_reducible exact ih8 _ _ _ _ _ _)
   | (with_reducible exact ih9 _ _ _ _ _ _ _)
   | (with_reducible exact fact_Fact_50.mono _ _ _ _ _)
   | (with_reducible exact fact_Of_1.mono _ _ _ _ _ _ _ _ _ _ _ _ _)
   | (with_reducible exact LeO.refl _)
   | (with_reducible exact LeO.none _)
   | (with_reducible refine LeO.ite ?_ ?_)
   | (with_reducible refine LeO.bind ?_ (fun _ => ?_))
   | exact ih0 _ _ _ _
   | exact ih1 _ _ _ _
   | exact ih2 _ _ _
   | exact ih3 _ _ _ _
   | exact ih4 _ _ _
   | exact ih5 _ _ _ _ _ _ _ _
   | exact ih6 _ _ _ _ _ _ _ _ _
   | exact ih7 _ _ _ _ _ _ _ _
   | exact ih8 _ _ _ _ _ _
   | exact ih9 _ _ _ _ _ _ _
   | exact fact_Fact_50.mono _ _ _ _ _
   | exact fact_Of_1.mono _ _ _ _ _ _ _ _ _ _ _ _ _
   | exact LeO.none _
   | refine LeO.ite ?_ ?_
   | refine LeO.bind ?_ (fun _ => ?_)
  ·intro y0 y1 y2 y3 y4 y5 y6
   unfold fact_Fact_48.j8
   repeat' first
   | (with_reducible exact ih0 _ _ _ _)
   | (with_reducible exact ih1 _ _ _ _)
   | (with_reducible exact ih2 _ _ _)
   | (with_reducible exact ih3 _ _ _ _)
   | (with_reducible exact ih4 _ _ _)
   | (with_reducible exact ih5 _ _ _ _ _ _ _ _)
   | (with_reducible exact ih6 _ _ _ _ _ _ _ _ _)
   | (with_reducible exact ih7 _ _ _ _ _ _ _ _)
   | (with_reducible exact ih8 _ _ _ _ _ _)
   | (with_reducible exact ih9 _ _ _ _ _ _ _)
   | (with_reducible exact fact_Fact_50.mono _ _ _ _ _)
   | (with_reducible exact fact_Of_1.mono _ _ _ _ _ _ _ _ _ _ _ _ _)
   | (with_reducible exact LeO.refl _)
   | (with_reducible exact LeO.none _)
   | (with_reducible refine LeO.ite ?_ ?_)
   | (with_reducible refine LeO.bind ?_ (fun _ => ?_))
   | exact ih0 _ _ _ _
   | exact ih1 _ _ _ _
   | exact ih2 _ _ _
   | exact ih3 _ _ _ _
   | exact ih4 _ _ _
   | exact ih5 _ _ _ _ _ _ _ _
   | exact ih6 _ _ _ _ _ _ _ _ _
   | exact ih7 _ _ _ _ _ _ _ _
   | exact ih8 _ _ _ _ _ _
   | exact ih9 _ _ _ _ _ _ _
   | exact fact_Fact_50.mono _ _ _ _ _
   | exact fact_Of_1.mono _ _ _ _ _ _ _ _ _ _ _ _ _
   | exact LeO.none _
   | refine LeO.ite ?_ ?_
   | refine LeO.bind ?_ (fun _ => ?_)
theorem fact_Fact_48.mono : ∀ a0 a1 a2 a3 k, LeO (fact_Fact_48.f k a0 a1 a2 a3) (fact_Fact_48.f (k + 1) a0 a1 a2 a3) := by
 intro a0 a1 a2 a3 k
 obtain ⟨ih0, ih1, ih2, ih3, ih4, ih5, ih6, ih7, ih8, ih9⟩ := fact_Fact_48.mono_l k
 exact ih0 a0 a1 a2 a3
def fact_Fact_48.T5 : Bool × List (List Nat × List Nat) := (true, [([], []), ([], []), ([], []), ([1, 2], [1, 2]), ([3], [3]), ([], []), ([], []), ([5, 6], [5, 6]), ([7], [7]), ([0, 4, 8], [0, 4, 8]), ([9], [9])])
def fact_Fact_48.B5 : List Nat := [0, 0, 0, 6, 14, 0, 0, 96, 224, 511, 1023]
theorem fact_Fact_48.tab5 : rtab .any (opsOf Try.f48 5) = fact_Fact_48.T5 := by kernel_rfl
theorem fact_Fact_48.bits5 : waitsOk fact_Fact_48.T5.2 fact_Fact_48.B5 = true := by kernel_rfl
def fact_Fact_48.T11 : Bool × List (List Nat × List Nat) := (true, [([], []), ([], []), ([], []), ([], []), ([3], [3]), ([], []), ([], []), ([6], [6]), ([5, 7], [5, 7]), ([8], [8]), ([], []), ([], []), ([10, 11], [10, 11]), ([12], [12]), ([0, 1, 0, 1, 5, 6, 7, 8, 9, 13], [0, 1]), ([14, 9, 0, 1, 5, 6, 7, 8, 9, 13], [9, 14]), ([2, 4, 0, 1, 2, 3, 4, 5, 6, 7, 8, 9, 10, 11, 12, 13, 14, 15], [2, 4]), ([16, 13, 15, 0, 1, 2, 3, 4, 5, 6, 7, 8, 9, 10, 11, 12, 13, 14, 15], [13, 16])])
def fact_Fact_48.B11 : List Nat := [0, 0, 0, 0, 8, 0, 0, 64, 224, 480, 0, 0, 3072, 7168, 16355, 32739, 65535, 131071]
theorem fact_Fact_48.tab11 : rtab .any (opsOf Try.f48 11) = fact_Fact_48.T11 := by kernel_rfl
theorem fact_Fact_48.bits11 : waitsOk fact_Fact_48.T11.2 fact_Fact_48.B11 = true := by kernel_rfl
def fact_Fact_48.T17 : Bool × List (List Nat × List Nat) := (true, [([], []), ([], []), ([], []), ([1, 2], [1, 2]), ([3], [3]), ([], []), ([], []), ([5, 6], [5, 6]), ([7], [7]), ([0, 4, 8], [0, 4, 8]), ([9], [9]), ([10], [10])])
def fact_Fact_48.B17 : List Nat := [0, 0, 0, 6, 14, 0, 0, 96, 224, 511, 1023, 2047]
theorem fact_Fact_48.tab17 : rtab .any (opsOf Try.f48 17) = fact_Fact_48.T17 := by kernel_rfl
theorem fact_Fact_48.bits17 : waitsOk fact_Fact_48.T17.2 fact_Fact_48.B17 = true := by kernel_rfl
def fact_Fact_48.T23 : Bool × List (List Nat × List Nat) := (true, [([], []), ([], []), ([], []), ([], []), ([3], [3]), ([], []), ([], []), ([6], [6]), ([5, 7], [5, 7]), ([8], [8]), ([], []), ([], []), ([10, 11], [10, 11]), ([12], [12]), ([0, 1, 0, 1, 5, 6, 7, 8, 9, 13], [0, 1]), ([14, 9, 0, 1, 5, 6, 7, 8, 9, 13], [9, 14]), ([2, 4, 0, 1, 2, 3, 4, 5, 6, 7, 8, 9, 10, 11, 12, 13, 14, 15], [2, 4]), ([16, 13, 15, 0, 1, 2, 3, 4, 5, 6, 7, 8, 9, 10, 11, 12, 13, 14, 15], [13, 16])])
def fact_Fact_48.B23 : List Nat := [0, 0, 0, 0, 8, 0, 0, 64, 224, 480, 0, 0, 3072, 7168, 16355, 32739, 65535, 131071]
theorem fact_Fact_48.tab23 : rtab .any (opsOf Try.f48 23) = fact_Fact_48.T23 := by kernel_rfl
theorem fact_Fact_48.bits23 : waitsOk fact_Fact_48.T23.2 fact_Fact_48.B23 = true := by kernel_rfl
def fact_Fact_48.T35 : Bool × List (List Nat × List Nat) := (true, [([], []), ([], []), ([], []), ([], []), ([2, 3], [2, 3]), ([1, 4], [1, 4]), ([5], [5]), ([], []), ([], []), ([7, 8], [7, 8]), ([9], [9]), ([0, 6, 10], [0, 6, 10]), ([11], [11]), ([12], [12])])
def fact_Fact_48.B35 : List Nat := [0, 0, 0, 0, 12, 30, 62, 0, 0, 384, 896, 2047, 4095, 8191]
theorem fact_Fact_48.tab35 : rtab .any (opsOf Try.f48 35) = fact_Fact_48.T35 := by kernel_rfl
theorem fact_Fact_48.bits35 : waitsOk fact_Fact_48.T35.2 fact_Fact_48.B35 = true := by kernel_rfl
/-- What is said of function 48 with so many rounds. -/
abbrev fact_Fact_48.Said (k : Nat) : Prop := ∀ (P0_ : Nat → Prop) (u9000_ : Value) (l0 : List (S55)) (a1 : Int) (a2 : Int) (a3 : Int)  (r : List (S55)) (w0 w : World) (hB : Below w0.heap.size w0 w) (ho0 : Kd.R k55 55 w w0.heap.size P0_ u9000_ l0) (h : fact_Fact_48.f k l0 a1 a2 a3 = some r), Calls Try.prog 48 #[u9000_, .int .i64 a1, .int .i64 a2, .int .i64 a3, .func (.func 34) #[] #[]] w fun e w' => e = .returned (.tuple #[]) ∧ Kd.R k55 55 w' w0.heap.size (fun k_ => (P0_ k_ ∨ w.heap.size ≤ k_)) u9000_ r ∧ Below w0.heap.size w0 w' ∧ Kept w w' (fun k_ => P0_ k_)
end Go.Proofs.Ytdckeflggcefbaa.Y
namespace Go.Proofs.Ytdckeflggcefbaa.Y
open Go.RowKit Go.Proofs.YtdckeflggcefbaaW.PrintWords Go.Proofs.YtdckeflggcefbaaW.PrintLast Go.Proofs.YtdckeflggcefbaaW.PrintMore
set_option linter.unusedVariables false
set_option linter.unusedSimpArgs false
theorem midw (i j : Nat) (h : i + j ≤ 4000000000000000000) : wrap64 ((IntKind.u64.wrap (wrap64 ((i : Int) + (j : Int)))) / 2) = (((i + j) / 2 : Nat) : Int) := by
  rw [w64 (n := (i : Int) + j) (by omega) (by omega), wu64 (by omega) (by omega), w64 (by omega) (by omega)]
  omega
/-- A search that halves: the first place from which on the answer is no. -/
theorem bsearch {α : Type} (F : Nat → Int → Int → Option α) (G : Nat → Int → Option α) (pr : Nat → Prop) [DecidablePred pr] (lo hi : Nat)
    (hend : ∀ (k i : Nat), lo ≤ i → i ≤ hi → F (k + 1) i i = G k i)
    (hstep : ∀ (i j : Nat), lo ≤ i → i < j → j ≤ hi → ∀ r, (if pr ((i + j) / 2) then Ev (fun k => F k (((i + j) / 2 + 1 : Nat) : Int) j) r else Ev (fun k => F k i (((i + j) / 2 : Nat) : Int)) r) → Ev (fun k => F k i j) r) :
    ∀ (n i j : Nat), j - i ≤ n → lo ≤ i → i ≤ j → j ≤ hi → ∃ s, i ≤ s ∧ s ≤ j ∧ (i < s → pr (s - 1)) ∧ (s < j → ¬ pr s) ∧ ∀ r, Ev (fun k => G k s) r → Ev (fun k => F k i j) r
  | n, i, j, hn, h1, h2, h3 => by
    by_cases hij : i = j
    · subst hij
      exact ⟨i, Nat.le_refl _, Nat.le_refl _, fun h => absurd h (Nat.lt_irrefl _), fun h => absurd h (Nat.lt_irrefl _), fun r h => Ev.step h fun k => hend k i h1 h3⟩
    · cases n with
      | zero => omega
      | succ n =>
        by_cases hp : pr ((i + j) / 2)
        · obtain ⟨s, g1, g2, g3, g4, g5⟩ := bsearch F G pr lo hi hend hstep n ((i + j) / 2 + 1) j (by omega) (by omega) (by omega) h3
          refine ⟨s, by omega, g2, fun h => ?_, g4, fun r h => hstep i j h1 (by omega) h3 r (by rw [if_pos hp]; exact g5 r h)⟩
          by_cases e : s = (i + j) / 2 + 1
          · rw [e]; exact hp
          · exact g3 (by omega)
        · obtain ⟨s, g1, g2, g3, g4, g5⟩ := bsearch F G pr lo hi hend hstep n i ((i + j) / 2) (by omega) h1 (by omega) (by omega)
          refine ⟨s, g1, by omega, g3, fun h => ?_, fun r h => hstep i j h1 (by omega) h3 r (by rw [if_neg hp]; exact g5 r h)⟩
          by_cases e : s = (i + j) / 2
          · rw [e]; exact hp
          · exact g4 (by omega)
theorem snoc_of_pos {l : List S55} (h : 0 < l.length) : ∃ l' z, l = l' ++ [z] :=
  ⟨l.dropLast, l.getLast (by intro e; simp [e] at h), (List.dropLast_concat_getLast _).symm⟩
theorem cons_of_pos {l : List S55} (h : 0 < l.length) : ∃ z l', l = z :: l' := by
  cases l with
  | nil => simp at h
  | cons z l' => exact ⟨z, l', rfl⟩
theorem part_at (l : List S55) (n : Nat) (h : n ≤ l.length) : ∃ l1 l2, l = l1 ++ l2 ∧ l1.length = n := ⟨l.take n, l.drop n, (List.take_append_drop _ _).symm, by simp; omega⟩
theorem first_le {A0 : List S55} {z : S55} (h : Srt (z :: A0)) : ∀ q ∈ z :: A0, cmpS z q ≤ 0 := by
  intro q hq
  rcases List.mem_cons.1 hq with rfl | hq
  · exact Int.le_of_eq (cmpS_good.refl _)
  · exact (List.pairwise_cons.1 h).1 q hq

/-! ### one fact and a sorted stretch -/
theorem l48_1_ev : ∀ (B1 : List S55) (x : S55) (P Q : List S55) (s q : Int), Sm (P ++ (x :: (B1 ++ Q))).length → q = P.length → s - 1 = P.length + B1.length →
    Ev (fun k => fact_Fact_48.l1 k (P ++ (x :: (B1 ++ Q))) s q) (P ++ (B1 ++ x :: Q))
  | [], x, P, Q, s, q, hs, hq, hi => by
    have hs' : P.length + Q.length + 1 ≤ 1000000000000000000 := by unfold Sm at hs; simp at hs; omega
    refine Ev.some fun k => ?_
    simp only [fact_Fact_48.l1]
    rw [w64 (n := s - 1) (by simp at hi; omega) (by simp at hi; omega), if_neg (by simp at hi; omega)]
    simp
  | y :: B1, x, P, Q, s, q, hs, hq, hi => by
    have hs' : P.length + B1.length + Q.length + 2 ≤ 1000000000000000000 := by unfold Sm at hs; simp at hs; omega
    have hlen : (P ++ (x :: ((y :: B1) ++ Q))).length = P.length + B1.length + Q.length + 2 := by simp; omega
    simp only [List.length_cons] at hi
    have ih := l48_1_ev B1 x (P ++ [y]) Q s (q + 1) (by unfold Sm; simp; omega) (by simp; omega) (by simp; omega)
    rw [show P ++ ((y :: B1) ++ x :: Q) = (P ++ [y]) ++ (B1 ++ x :: Q) by simp]
    refine Ev.step ih fun k => ?_
    show fact_Fact_48.l1 (k + 1) _ _ _ = _
    have e1 : P ++ (x :: ((y :: B1) ++ Q)) = P ++ (x :: ([] ++ y :: (B1 ++ Q))) := by simp
    have e2 : P ++ (x :: ((y :: B1) ++ Q)) = (P ++ [x]) ++ (y :: (B1 ++ Q)) := by simp
    have r1 : rd_T55 (P ++ (x :: ((y :: B1) ++ Q))) q = x := by rw [e1]; exact rd_app _ _ _ _ hq
    have r2 : rd_T55 (P ++ (x :: ((y :: B1) ++ Q))) (q + 1) = y := by rw [e2]; exact rd_app _ _ _ _ (by simp; omega)
    simp only [fact_Fact_48.l1]
    rw [w64 (n := s - 1) (by omega) (by omega), w64 (n := q + 1) (by omega) (by omega), if_pos (by omega), if_pos (by omega), if_pos (by rw [hlen]; omega), if_pos (by omega), if_pos (by rw [hlen]; omega)]
    simp only [r1, r2]
    show fact_Fact_48.l1 k (((P ++ (x :: ((y :: B1) ++ Q))).set q.toNat y).set (q + 1).toNat x) s (q + 1) = _
    rw [e1, swap_app P [] (B1 ++ Q) x y q (q + 1) hq (by simp; omega)]
    congr 1
    simp
theorem l48_3_ev : ∀ (n : Nat) (A2 : List S55) (y : S55) (P Q : List S55) (s q : Int), A2.length = n → Sm (P ++ (A2 ++ y :: Q)).length → s = P.length → q = P.length + A2.length →
    Ev (fun k => fact_Fact_48.l3 k (P ++ (A2 ++ y :: Q)) s q) (P ++ (y :: (A2 ++ Q)))
  | 0, A2, y, P, Q, s, q, hn, hs, hq, hi => by
    obtain rfl := List.length_eq_zero_iff.1 hn
    refine Ev.some fun k => ?_
    simp only [fact_Fact_48.l3]
    rw [if_neg (by simp at hi; omega)]
    simp
  | n + 1, A2, y, P, Q, s, q, hn, hs, hq, hi => by
    obtain ⟨A', z, rfl⟩ := snoc_of_pos (l := A2) (by omega)
    have hn' : A'.length = n := by simpa using hn
    have hs' : P.length + A'.length + Q.length + 2 ≤ 1000000000000000000 := by unfold Sm at hs; simp at hs; omega
    have hlen : (P ++ ((A' ++ [z]) ++ y :: Q)).length = P.length + A'.length + Q.length + 2 := by simp; omega
    have hi' : q = P.length + A'.length + 1 := by simp at hi; omega
    have ih := l48_3_ev n A' y P (z :: Q) s (q - 1) hn' (by unfold Sm; simp; omega) hq (by omega)
    rw [show P ++ (y :: ((A' ++ [z]) ++ Q)) = P ++ (y :: (A' ++ z :: Q)) by simp]
    refine Ev.step ih fun k => ?_
    show fact_Fact_48.l3 (k + 1) _ _ _ = _
    have e1 : P ++ ((A' ++ [z]) ++ y :: Q) = (P ++ A') ++ (z :: ([] ++ y :: Q)) := by simp
    have e2 : P ++ ((A' ++ [z]) ++ y :: Q) = (P ++ (A' ++ [z])) ++ (y :: Q) := by simp
    have r1 : rd_T55 (P ++ ((A' ++ [z]) ++ y :: Q)) q = y := by rw [e2]; exact rd_app _ _ _ _ (by simp; omega)
    have r2 : rd_T55 (P ++ ((A' ++ [z]) ++ y :: Q)) (q - 1) = z := by rw [e1]; exact rd_app _ _ _ _ (by simp; omega)
    simp only [fact_Fact_48.l3]
    rw [w64 (n := q - 1) (by omega) (by omega), if_pos (by omega), if_pos (by omega), if_pos (by rw [hlen]; omega), if_pos (by omega), if_pos (by rw [hlen]; omega)]
    simp only [r1, r2]
    show fact_Fact_48.l3 k (((P ++ ((A' ++ [z]) ++ y :: Q)).set q.toNat z).set (q - 1).toNat y) s (q - 1) = _
    rw [e1, swap_app' (P ++ A') [] Q z y (q - 1) q (by simp; omega) (by simp; omega)]
    congr 1
    simp
theorem sA_ev (x : S55) (B P Q : List S55) (a m b : Nat) (hB : Srt B) (hs : Sm (P ++ (x :: (B ++ Q))).length) (ha : a = P.length) (hm : m = a + 1) (hb : b = m + B.length) :
    ∃ B1 B2, B = B1 ++ B2 ∧ (∀ z ∈ B1, cmpS z x < 0) ∧ (∀ z ∈ B2, cmpS x z ≤ 0) ∧ Ev (fun k => fact_Fact_48.l0 k (P ++ (x :: (B ++ Q))) a m b) (P ++ (B1 ++ x :: (B2 ++ Q))) := by
  have hs' : P.length + B.length + Q.length + 1 ≤ 1000000000000000000 := by unfold Sm at hs; simp at hs; omega
  have hlen : (P ++ (x :: (B ++ Q))).length = P.length + B.length + Q.length + 1 := by simp; omega
  obtain ⟨xs, hxs⟩ : ∃ xs, P ++ (x :: (B ++ Q)) = xs := ⟨_, rfl⟩
  have rx : rd_T55 xs (a : Int) = x := by rw [← hxs]; exact rd_app _ _ _ _ (by omega)
  rw [hxs] at hlen ⊢
  obtain ⟨s, g1, g2, g3, g4, g5⟩ := bsearch (fun k i j => fact_Fact_48.l0 k xs a i j) (fun k s => fact_Fact_48.l1 k xs s a) (fun h => cmpS (rd_T55 xs (h : Int)) x < 0) m b
    (fun k i h1 h2 => by
      show fact_Fact_48.l0 (k + 1) _ _ _ _ = _
      simp only [fact_Fact_48.l0]; rw [if_neg (by omega)])
    (fun i j h1 h2 h3 r h => by
      refine Ev.step (Ev.bind (g := fun k t => if t < 0 then fact_Fact_48.l0 k xs a (((i + j) / 2 + 1 : Nat) : Int) j else fact_Fact_48.l0 k xs a i (((i + j) / 2 : Nat) : Int)) (of1_ev (rd_T55 xs (((i + j) / 2 : Nat) : Int)) (rd_T55 xs (a : Int))) ?_) fun k => ?_
      · rw [rx]
        by_cases hc : cmpS (rd_T55 xs (((i + j) / 2 : Nat) : Int)) x < 0
        · simp only [if_pos hc] at h ⊢; exact h
        · simp only [if_neg hc] at h ⊢; exact h
      · show fact_Fact_48.l0 (k + 1) _ _ _ _ = _
        simp only [fact_Fact_48.l0]
        rw [midw i j (by omega), if_pos (by omega), if_pos (by omega), if_pos (by rw [hlen]; omega), if_pos (by omega), if_pos (by rw [hlen]; omega), w64 (n := (((i + j) / 2 : Nat) : Int) + 1) (by omega) (by omega)]
        rfl) (b - m) m b (Nat.le_refl _) (Nat.le_refl _) (by omega) (Nat.le_refl _)
  obtain ⟨B1, B2, rfl, h1⟩ := part_at B (s - m) (by omega)
  have hl2 : (B1 ++ B2).length = B1.length + B2.length := by simp
  refine ⟨B1, B2, rfl, ?_, ?_, g5 _ ?_⟩
  · intro z hz
    obtain ⟨B0, v, rfl⟩ := snoc_of_pos (l := B1) (List.length_pos_of_mem hz)
    have hv : cmpS v x < 0 := by
      have := g3 (by simp at h1; omega)
      rwa [show rd_T55 xs ((s - 1 : Nat) : Int) = v by
        rw [← hxs, show P ++ (x :: (((B0 ++ [v]) ++ B2) ++ Q)) = (P ++ (x :: B0)) ++ (v :: (B2 ++ Q)) by simp]
        exact rd_app _ _ _ _ (by simp at h1 ⊢; omega)] at this
    exact le_lt (last_le hB.left z hz) hv
  · intro z hz
    obtain ⟨v, B0, rfl⟩ := cons_of_pos (l := B2) (List.length_pos_of_mem hz)
    have hv : ¬ cmpS v x < 0 := by
      have := g4 (by simp at hb; omega)
      rwa [show rd_T55 xs (s : Int) = v by
        rw [← hxs, show P ++ (x :: ((B1 ++ (v :: B0)) ++ Q)) = (P ++ (x :: B1)) ++ (v :: (B0 ++ Q)) by simp]
        exact rd_app _ _ _ _ (by simp; omega)] at this
    exact cmpS_good.trans _ _ _ (le_of_not_lt hv) (first_le hB.right z hz)
  · rw [← hxs, show P ++ (x :: ((B1 ++ B2) ++ Q)) = P ++ (x :: (B1 ++ (B2 ++ Q))) by simp]
    exact l48_1_ev B1 x P (B2 ++ Q) s a (by unfold Sm; simp; omega) (by omega) (by omega)
theorem sB_ev (y : S55) (A P Q : List S55) (a m : Nat) (hA : Srt A) (hs : Sm (P ++ (A ++ y :: Q)).length) (ha : a = P.length) (hm : m = a + A.length) :
    ∃ A1 A2, A = A1 ++ A2 ∧ (∀ z ∈ A1, cmpS z y ≤ 0) ∧ (∀ z ∈ A2, cmpS y z < 0) ∧ Ev (fun k => fact_Fact_48.l2 k (P ++ (A ++ y :: Q)) m a m) (P ++ (A1 ++ y :: (A2 ++ Q))) := by
  have hs' : P.length + A.length + Q.length + 1 ≤ 1000000000000000000 := by unfold Sm at hs; simp at hs; omega
  have hlen : (P ++ (A ++ y :: Q)).length = P.length + A.length + Q.length + 1 := by simp; omega
  obtain ⟨xs, hxs⟩ : ∃ xs, P ++ (A ++ y :: Q) = xs := ⟨_, rfl⟩
  have rx : rd_T55 xs (m : Int) = y := by rw [← hxs, ← List.append_assoc]; exact rd_app _ _ _ _ (by simp; omega)
  rw [hxs] at hlen ⊢
  obtain ⟨s, g1, g2, g3, g4, g5⟩ := bsearch (fun k i j => fact_Fact_48.l2 k xs m i j) (fun k s => fact_Fact_48.l3 k xs s m) (fun h => ¬ cmpS y (rd_T55 xs (h : Int)) < 0) a m
    (fun k i h1 h2 => by
      show fact_Fact_48.l2 (k + 1) _ _ _ _ = _
      simp only [fact_Fact_48.l2]; rw [if_neg (by omega)])
    (fun i j h1 h2 h3 r h => by
      refine Ev.step (Ev.bind (g := fun k t => if t < 0 then fact_Fact_48.l2 k xs m i (((i + j) / 2 : Nat) : Int) else fact_Fact_48.l2 k xs m (((i + j) / 2 + 1 : Nat) : Int) j) (of1_ev (rd_T55 xs (m : Int)) (rd_T55 xs (((i + j) / 2 : Nat) : Int))) ?_) fun k => ?_
      · rw [rx]
        by_cases hc : cmpS y (rd_T55 xs (((i + j) / 2 : Nat) : Int)) < 0
        · rw [if_neg (by simpa using hc)] at h; simp only [if_pos hc]; exact h
        · rw [if_pos hc] at h; simp only [if_neg hc]; exact h
      · show fact_Fact_48.l2 (k + 1) _ _ _ _ = _
        simp only [fact_Fact_48.l2]
        rw [midw i j (by omega), if_pos (by omega), if_pos (by omega), if_pos (by rw [hlen]; omega), if_pos (by omega), if_pos (by rw [hlen]; omega), w64 (n := (((i + j) / 2 : Nat) : Int) + 1) (by omega) (by omega)]
        rfl) (m - a) a m (Nat.le_refl _) (Nat.le_refl _) (by omega) (Nat.le_refl _)
  obtain ⟨A1, A2, rfl, h1⟩ := part_at A (s - a) (by omega)
  have hl2 : (A1 ++ A2).length = A1.length + A2.length := by simp
  refine ⟨A1, A2, rfl, ?_, ?_, g5 _ ?_⟩
  · intro z hz
    obtain ⟨B0, v, rfl⟩ := snoc_of_pos (l := A1) (List.length_pos_of_mem hz)
    have hv : ¬ cmpS y v < 0 := by
      have := g3 (by simp at h1; omega)
      rwa [show rd_T55 xs ((s - 1 : Nat) : Int) = v by
        rw [← hxs, show P ++ (((B0 ++ [v]) ++ A2) ++ y :: Q) = (P ++ B0) ++ (v :: (A2 ++ y :: Q)) by simp]
        exact rd_app _ _ _ _ (by simp at h1 ⊢; omega)] at this
    exact cmpS_good.trans _ _ _ (last_le hA.left z hz) (le_of_not_lt hv)
  · intro z hz
    obtain ⟨v, B0, rfl⟩ := cons_of_pos (l := A2) (List.length_pos_of_mem hz)
    have hv : cmpS y v < 0 := by
      have := g4 (by simp at hm; omega)
      rw [show rd_T55 xs (s : Int) = v by
        rw [← hxs, show P ++ ((A1 ++ (v :: B0)) ++ y :: Q) = (P ++ A1) ++ (v :: (B0 ++ y :: Q)) by simp]
        exact rd_app _ _ _ _ (by simp; omega)] at this
      exact Decidable.not_not.1 this
    exact lt_le hv (first_le hA.right z hz)
  · rw [← hxs, show P ++ ((A1 ++ A2) ++ y :: Q) = (P ++ A1) ++ (A2 ++ y :: Q) by simp, show P ++ (A1 ++ y :: (A2 ++ Q)) = (P ++ A1) ++ (y :: (A2 ++ Q)) by simp]
    exact l48_3_ev _ A2 y (P ++ A1) Q s m rfl (by unfold Sm; simp; omega) (by simp; omega) (by simp; omega)
end Go.Proofs.Ytdckeflggcefbaa.Y
