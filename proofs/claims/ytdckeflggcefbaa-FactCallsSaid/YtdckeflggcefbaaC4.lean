/- Plain Lean functions with the answers of the program's functions, and proofs that the machine's calls come to them; lines written by a program for this claim. What a stable sort is, and what exchanges of parts of a list leave: insertion, exchange of two stretches, rotation. Plain Lean; the numbers of a list's places are small. What a cube of facts is: its keys rise, no amount is 0, each key has the sum of its facts; there is one alone. Plain Lean. The library's slices.Grow at the nil slice of facts: an empty row of the call's own. Its conditions: the room that is asked for is not negative, and its bytes fit the machine. Insertion sort of a stretch: it is sorted, facts of one key stand as they stood. Plain Lean. What the law's own small functions answer. Plain Lean. cent.Add on amounts whose sum fits: the sum, and no error. Plain Lean. The iterator over the runs of equal keys: what it hands to each round, and what it leaves. Its conditions: the rounds keep what the two invariants say. The library's slices.Clone at facts: a new row of the same facts; nothing that was there is turned. Its condition: the row's bytes fit the machine. No conditions. -/
import Derived.WalkSpells
import Derived.RangeFuncLeaves
import Derived.RangeFuncCalls
import Derived.Shelf.Abstract
import Derived.OwnWalkIn
import Derived.TacticsInMore
import Derived.LoopNIn
import Derived.LoopIn
import Derived.Sort.LoopGhostIn
import Derived.Sort.QuietIn
import Derived.Test.YtdckeflggcefbaaC1
import Derived.Test.YtdckeflggcefbaaC2
import Derived.Test.YtdckeflggcefbaaC3
namespace Go.Proofs.Ytdckeflggcefbaa.Y
open Go.RowKit Go.Proofs.YtdckeflggcefbaaW.PrintWords Go.Proofs.YtdckeflggcefbaaW.PrintLast Go.Proofs.YtdckeflggcefbaaW.PrintMore
attribute [local go_sem] max2_int min2_int max_two min_two max_three min_three max_four min_four
set_option linter.unusedVariables false
set_option linter.unusedSimpArgs false

/-! ### fact_Fact_50: function 50 -/
def fact_Fact_50.l0 : Nat → List (S55) → Int → Int → Int → Option ((List (S55)))
 | 0, _, _, _, _ => none
 | k + 1, x0, x2, x10, x11 => if x10 = x11 then ((fact_Fact_51.f k x0 (wrap64 (x2 - x10)) x2 x10).bind fun t132 => (some t132)) else (if x10 > x11 then ((fact_Fact_51.f k x0 (wrap64 (x2 - x10)) x2 x11).bind fun t133 => (fact_Fact_50.l0 k t133 x2 (wrap64 (x10 - x11)) x11)) else ((fact_Fact_51.f k x0 (wrap64 (x2 - x10)) (wrap64 ((wrap64 (x2 + x11)) - x10)) x10).bind fun t134 => (fact_Fact_50.l0 k t134 x2 x10 (wrap64 (x11 - x10)))))
def fact_Fact_50.f (k : Nat) (l0 : List (S55)) (a1 : Int) (a2 : Int) (a3 : Int)  : Option ((List (S55))) := fact_Fact_50.l0 k l0 a2 (wrap64 (a2 - a1)) (wrap64 (a3 - a2))
theorem fact_Fact_50.mono_l : ∀ k, (∀ y0 y1 y2 y3, LeO (fact_Fact_50.l0 k y0 y1 y2 y3) (fact_Fact_50.l0 (k + 1) y0 y1 y2 y3))
 | 0 => fun _ _ _ _ r h => by simp [fact_Fact_50.l0] at h
 | k + 1 => by
  have ih0 := fact_Fact_50.mono_l k
  ·intro y0 y1 y2 y3
   unfold fact_Fact_50.l0
   with_reducible repeat' first | apply ih0 | apply fact_Fact_51.mono | refine LeO.refl _ | refine LeO.none _ | refine LeO.ite ?_ ?_ | refine LeO.bind ?_ (fun _ => ?_)
theorem fact_Fact_50.mono : ∀ a0 a1 a2 a3 k, LeO (fact_Fact_50.f k a0 a1 a2 a3) (fact_Fact_50.f (k + 1) a0 a1 a2 a3) := by
 intro a0 a1 a2 a3 k
 have ih0 := fact_Fact_50.mono_l k
 unfold fact_Fact_50.f
 with_reducible repeat' first | apply ih0 | apply fact_Fact_51.mono | refine LeO.refl _ | refine LeO.none _ | refine LeO.ite ?_ ?_ | refine LeO.bind ?_ (fun _ => ?_)
set_option maxHeartbeats 8000000 in
set_option maxRecDepth 100000 in
theorem fact_Fact_50.calls (k : Nat) (P0_ : Nat → Prop) (u9000_ : Value) (l0 : List (S55)) (a1 : Int) (a2 : Int) (a3 : Int)  (r : List (S55)) (w0 w : World) (hB : Below w0.heap.size w0 w) (ho0 : Kd.R k55 55 w w0.heap.size P0_ u9000_ l0) (h : fact_Fact_50.f k l0 a1 a2 a3 = some r) :
  Calls Try.prog 50 #[u9000_, .int .i64 a1, .int .i64 a2, .int .i64 a3, .func (.func 34) #[] #[]] w fun e w' => e = .returned (.tuple #[]) ∧ Kd.R k55 55 w' w0.heap.size (fun k_ => (P0_ k_ ∨ w.heap.size ≤ k_)) u9000_ r ∧ Below w0.heap.size w0 w' ∧ Kept w w' (fun k_ => P0_ k_) := by
 have HO0 := Aside0.mk (show Kd.R k55 55 w w0.heap.size (fun k_ => (P0_ k_ ∨ w.heap.size ≤ k_)) u9000_ l0 from Kd.R_mono ho0 (fun k_ hk => (.inl hk)))
 have HK := Aside0.mk (Kept.refl w (fun k_ => P0_ k_))
 have HW0 := Aside0.mk hB.size
 have HB := Aside0.mk hB; clear hB
 have H : (fact_Fact_50.l0 k l0 a2 (wrap64 (a2 - a1)) (wrap64 (a3 - a2))) = some r := h
 clear h
 have H' := Aside0.mk H
 clear H
 go_enter Try.func50, Try.ntmps50
 go_wp2
 go_loopg [10, 11] k (fun kq v10 v11 w' => ∃ (x0_1 : List (S55)) (x10_1 : Int) (x11_1 : Int), v10 = .int .i64 x10_1 ∧ v11 = .int .i64 x11_1 ∧ Aside0 (fact_Fact_50.l0 kq x0_1 a2 x10_1 x11_1 = some r) ∧ Aside0 (kq ≤ k) ∧ Aside0 (Kd.R k55 55 w' w0.heap.size (fun k_ => (P0_ k_ ∨ w.heap.size ≤ k_)) u9000_ x0_1) ∧ Aside0 (Kept w w' (fun k_ => P0_ k_)) ∧ Aside0 (Below w0.heap.size w0 w'))
 case atStart => exact ⟨(l0), (wrap64 (a2 - a1)), (wrap64 (a3 - a2)), rs_, rs_, H', ⟨Nat.le_refl _⟩, ⟨kr HO0⟩, ⟨kp_⟩, ⟨bw⟩⟩
 case round =>
  clear H'
  (try clear p2); (try clear c5)
  obtain ⟨x0_1, x10_1, x11_1, rfl, rfl, HA, HK1, HO_0, HK, HB⟩ := hrel
  cases gk with
  | zero => exact absurd HA.out (by simp [fact_Fact_50.l0])
  | succ k1 =>
   have H := HA.out; clear HA
   simp only [fact_Fact_50.l0] at H
   by_cases c6 : x10_1 = x11_1
   ·rw [if_pos c6] at H
    have c6b0 : (x10_1 == x11_1) = true := beq_iff_eq.mpr c6
    have c6b1 : (x10_1 != x11_1) = false := bne_eq_false_iff_eq.mpr c6
    clear c6
    replace H := Option.bind_eq_some_iff.mp H
    obtain ⟨t132, A70, H⟩ := H
    replace H : (some t132) = some r := H
    have A7 := Aside0.mk A70; clear A70
    obtain rfl := Option.some.inj H
    obtain ⟨Ao8, co8, eo8⟩ := Kd.R_slice HO_0.out
    subst eo8
    go_wp2_with (first | ((with_reducible refine gate_callee (f := 51) rfl ?_); refine goesL_ (some 57) rfl rfl Try.func51 (by kernel_rfl) rfl #[.slice Ao8 x0_1.length co8, .int .i64 (wrap64 (a2 - x10_1)), .int .i64 a2, .int .i64 x10_1, .func (.func 34) #[] #[]] rfl mp_ ?_; (with_reducible refine (fact_Fact_51.calls k1 (fun k_ => some k_ = (.slice Ao8 x0_1.length co8 : Value).ownBlock) (.slice Ao8 x0_1.length co8) x0_1 (wrap64 (a2 - x10_1)) a2 x10_1  t132 w0 _ ?side1 ?side2 A7.out).mono ?_); (case side1 => repeat (first | (with_reducible first | exact HB.out | apply below_alloc | apply pw_below_drewN | apply below_drew1) | exact HB.out)); (case side2 => exact Kd.R_tight rfl HO_0.out); rintro e w9 ⟨rfl, hy0, hb, hkp⟩; refine ⟨_, rfl, ?_⟩; have n0_ := Aside0.mk (Kd.R_reok rfl hy0 (fun k_ e_ => HO_0.out.1 k_ e_)); have n1_ := Aside0.mk (Kept.then_ (S := (fun k_ => P0_ k_)) kp_ hkp (fun k_ hs_ => (fun e_ => (HO_0.out.1 k_ e_.symm)) hs_)); have n2_ := Aside0.mk (hb); clear HO_0; clear HK; clear HB; have HO_0 := n0_; have HK := n1_; have HB := n2_; clear n0_ n1_ n2_; (try clear hb); (try clear hkp); (try clear hy0)))
    first | go_end0 | ((try simp only [Exit.inBlock, Exit.then]); refine bodyPost_ret (results_none rfl _ _ _) rfl ?_)
    exact ⟨re_, kr HO_0, by repeat (first | (with_reducible first | exact HB.out | apply below_alloc | apply pw_below_drewN | apply below_drew1) | exact HB.out), kp_⟩
   ·rw [if_neg c6] at H
    have c6b0 : (x10_1 == x11_1) = false := beq_eq_false_iff_ne.mpr c6
    have c6b1 : (x10_1 != x11_1) = true := bne_iff_ne.mpr c6
    by_cases c10 : x10_1 > x11_1
    ·rw [if_pos c10] at H
     have c10b0 : decide (x11_1 < x10_1) = true := decide_eq_true c10
     clear c10
     replace H := Option.bind_eq_some_iff.mp H
     obtain ⟨t133, A110, H⟩ := H
     replace H : (fact_Fact_50.l0 k1 t133 a2 (wrap64 (x10_1 - x11_1)) x11_1) = some r := H
     have A11 := Aside0.mk A110; clear A110
     have H' := Aside0.mk H
     clear H
     obtain ⟨Ao12, co12, eo12⟩ := Kd.R_slice HO_0.out
     subst eo12
     go_wp2_with (first | ((with_reducible refine gate_callee (f := 51) rfl ?_); refine goesL_ (some 31) rfl rfl Try.func51 (by kernel_rfl) rfl #[.slice Ao12 x0_1.length co12, .int .i64 (wrap64 (a2 - x10_1)), .int .i64 a2, .int .i64 x11_1, .func (.func 34) #[] #[]] rfl mp_ ?_; (with_reducible refine (fact_Fact_51.calls k1 (fun k_ => some k_ = (.slice Ao12 x0_1.length co12 : Value).ownBlock) (.slice Ao12 x0_1.length co12) x0_1 (wrap64 (a2 - x10_1)) a2 x11_1  t133 w0 _ ?side1 ?side2 A11.out).mono ?_); (case side1 => repeat (first | (with_reducible first | exact HB.out | apply below_alloc | apply pw_below_drewN | apply below_drew1) | exact HB.out)); (case side2 => exact Kd.R_tight rfl HO_0.out); rintro e w13 ⟨rfl, hy0, hb, hkp⟩; refine ⟨_, rfl, ?_⟩; have n0_ := Aside0.mk (Kd.R_reok rfl hy0 (fun k_ e_ => HO_0.out.1 k_ e_)); have n1_ := Aside0.mk (Kept.then_ (S := (fun k_ => P0_ k_)) kp_ hkp (fun k_ hs_ => (fun e_ => (HO_0.out.1 k_ e_.symm)) hs_)); have n2_ := Aside0.mk (hb); clear HO_0; clear HK; clear HB; have HO_0 := n0_; have HK := n1_; have HB := n2_; clear n0_ n1_ n2_; (try clear hb); (try clear hkp); (try clear hy0)))
     go_roundg k1
     case measure => have := HK1.out; omega
     case rel => exact ⟨(t133), (wrap64 (x10_1 - x11_1)), (x11_1), rs_, rs_, H', ⟨by have := HK1.out; omega⟩, ⟨kr HO_0⟩, ⟨kp_⟩, ⟨bw⟩⟩
    ·rw [if_neg c10] at H
     have c10b0 : decide (x11_1 < x10_1) = false := decide_eq_false c10
     clear c10
     replace H := Option.bind_eq_some_iff.mp H
     obtain ⟨t134, A140, H⟩ := H
     replace H : (fact_Fact_50.l0 k1 t134 a2 x10_1 (wrap64 (x11_1 - x10_1))) = some r := H
     have A14 := Aside0.mk A140; clear A140
     have H' := Aside0.mk H
     clear H
     obtain ⟨Ao15, co15, eo15⟩ := Kd.R_slice HO_0.out
     subst eo15
     go_wp2_with (first | ((with_reducible refine gate_callee (f := 51) rfl ?_); refine goesL_ (some 46) rfl rfl Try.func51 (by kernel_rfl) rfl #[.slice Ao15 x0_1.length co15, .int .i64 (wrap64 (a2 - x10_1)), .int .i64 (wrap64 ((wrap64 (a2 + x11_1)) - x10_1)), .int .i64 x10_1, .func (.func 34) #[] #[]] rfl mp_ ?_; (with_reducible refine (fact_Fact_51.calls k1 (fun k_ => some k_ = (.slice Ao15 x0_1.length co15 : Value).ownBlock) (.slice Ao15 x0_1.length co15) x0_1 (wrap64 (a2 - x10_1)) (wrap64 ((wrap64 (a2 + x11_1)) - x10_1)) x10_1  t134 w0 _ ?side1 ?side2 A14.out).mono ?_); (case side1 => repeat (first | (with_reducible first | exact HB.out | apply below_alloc | apply pw_below_drewN | apply below_drew1) | exact HB.out)); (case side2 => exact Kd.R_tight rfl HO_0.out); rintro e w16 ⟨rfl, hy0, hb, hkp⟩; refine ⟨_, rfl, ?_⟩; have n0_ := Aside0.mk (Kd.R_reok rfl hy0 (fun k_ e_ => HO_0.out.1 k_ e_)); have n1_ := Aside0.mk (Kept.then_ (S := (fun k_ => P0_ k_)) kp_ hkp (fun k_ hs_ => (fun e_ => (HO_0.out.1 k_ e_.symm)) hs_)); have n2_ := Aside0.mk (hb); clear HO_0; clear HK; clear HB; have HO_0 := n0_; have HK := n1_; have HB := n2_; clear n0_ n1_ n2_; (try clear hb); (try clear hkp); (try clear hy0)))
     go_roundg k1
     case measure => have := HK1.out; omega
     case rel => exact ⟨(t134), (x10_1), (wrap64 (x11_1 - x10_1)), rs_, rs_, H', ⟨by have := HK1.out; omega⟩, ⟨kr HO_0⟩, ⟨kp_⟩, ⟨bw⟩⟩

end Go.Proofs.Ytdckeflggcefbaa.Y
namespace Go.Proofs.Ytdckeflggcefbaa.Y
open Go.RowKit Go.Proofs.YtdckeflggcefbaaW.PrintWords Go.Proofs.YtdckeflggcefbaaW.PrintLast Go.Proofs.YtdckeflggcefbaaW.PrintMore
set_option linter.unusedVariables false
set_option linter.unusedSimpArgs false
theorem le_of_not_lt {x y : S55} (h : ¬ cmpS x y < 0) : cmpS y x ≤ 0 := by have := cmpS_good.anti x y; omega
theorem lt_le {x y z : S55} (h : cmpS x y < 0) (g : cmpS y z ≤ 0) : cmpS x z < 0 := by
  have a := cmpS_good.anti x z
  have b := cmpS_good.anti x y
  have t := cmpS_good.trans y z x g
  omega
theorem le_lt {x y z : S55} (h : cmpS x y ≤ 0) (g : cmpS y z < 0) : cmpS x z < 0 := by
  have a := cmpS_good.anti x z
  have b := cmpS_good.anti y z
  have t := cmpS_good.trans z x y
  omega
/-- Sorted: each stands no lower than any ahead of it. -/
def Srt (l : List S55) : Prop := l.Pairwise fun x y => cmpS x y ≤ 0
def eqv (x y : S55) : Bool := cmpS x y == 0
/-- r is l, sorted; facts of one key stand as they stood. -/
def SS (l r : List S55) : Prop := Srt r ∧ ∀ x, r.filter (eqv x) = l.filter (eqv x)
theorem Srt.app {a b : List S55} (ha : Srt a) (hb : Srt b) (h : ∀ x ∈ a, ∀ y ∈ b, cmpS x y ≤ 0) : Srt (a ++ b) := List.pairwise_append.2 ⟨ha, hb, h⟩
theorem Srt.left {a b : List S55} (h : Srt (a ++ b)) : Srt a := (List.pairwise_append.1 h).1
theorem Srt.right {a b : List S55} (h : Srt (a ++ b)) : Srt b := (List.pairwise_append.1 h).2.1
theorem Srt.across {a b : List S55} (h : Srt (a ++ b)) : ∀ x ∈ a, ∀ y ∈ b, cmpS x y ≤ 0 := (List.pairwise_append.1 h).2.2
theorem SS.refl {l : List S55} (h : Srt l) : SS l l := ⟨h, fun _ => rfl⟩
theorem SS.trans {a b c : List S55} (h : SS a b) (g : SS b c) : SS a c := ⟨g.1, fun x => (g.2 x).trans (h.2 x)⟩
theorem SS.mem {l r : List S55} (h : SS l r) {x : S55} : x ∈ r ↔ x ∈ l := by
  have e : eqv x x = true := by simp [eqv, cmpS_good.refl]
  have h1 : ∀ k : List S55, x ∈ k ↔ x ∈ k.filter (eqv x) := fun k => by simp [List.mem_filter, e]
  rw [h1 r, h.2, ← h1]
/-- Two parts that stand apart, each sorted. -/
theorem SS.app {a b c d : List S55} (h : SS a c) (g : SS b d) (hx : ∀ x ∈ a, ∀ y ∈ b, cmpS x y ≤ 0) : SS (a ++ b) (c ++ d) :=
  ⟨h.1.app g.1 fun x hx' y hy => hx x (h.mem.1 hx') y (g.mem.1 hy), fun x => by rw [List.filter_append, List.filter_append, h.2, g.2]⟩
/-- What is strictly below may go ahead. -/
theorem filter_cross {a b : List S55} (h : ∀ x ∈ a, ∀ y ∈ b, cmpS y x < 0) (z : S55) : (b ++ a).filter (eqv z) = (a ++ b).filter (eqv z) := by
  rw [List.filter_append, List.filter_append]
  by_cases ha : a.filter (eqv z) = []
  · rw [ha]; simp
  · obtain ⟨x, hx⟩ := List.exists_mem_of_ne_nil _ ha
    rw [List.mem_filter] at hx
    have hb : b.filter (eqv z) = [] := by
      rw [List.filter_eq_nil_iff]
      intro y hy e
      have h1 := h x hx.1 y hy
      have h2 : cmpS z x = 0 := by simpa [eqv] using hx.2
      have h3 : cmpS z y = 0 := by simpa [eqv] using e
      have := cmpS_good.anti z y
      have := cmpS_good.anti z x
      have := lt_le (z := z) h1 (by omega)
      omega
    rw [hb]; simp
theorem rd_app (P R : List S55) (x : S55) (i : Int) (hi : i = P.length) : rd_T55 (P ++ x :: R) i = x := by
  subst hi; simp [rd_T55, List.getD_eq_getElem?_getD]
theorem swap_app (P M Q : List S55) (x y : S55) (i j : Int) (hi : i = P.length) (hj : j = P.length + 1 + M.length) :
    ((P ++ (x :: (M ++ y :: Q))).set i.toNat y).set j.toNat x = P ++ (y :: (M ++ x :: Q)) := by
  subst hi hj
  have e : ((P.length : Int) + 1 + M.length).toNat = P.length + (1 + M.length) := by omega
  rw [e, Int.toNat_natCast, List.set_append_right _ _ (Nat.le_refl _), List.set_append_right _ _ (by omega)]
  simp only [Nat.sub_self, List.set_cons_zero, Nat.add_sub_cancel_left, Nat.add_comm 1, List.set_cons_succ]
  rw [List.set_append_right _ _ (Nat.le_refl _)]
  simp
/-- Few enough for a machine's whole number. -/
def Sm (n : Nat) : Prop := n ≤ 1000000000000000000

/-! ### the exchange of two stretches -/
theorem l51_step {xs : List S55} {a b n i : Int} (k : Nat) (hs : Sm xs.length) (h : i < n) (hn : n ≤ 1000000000000000000) (h0 : 0 ≤ i) (ha : 0 ≤ a + i) (ha2 : a + i < xs.length) (hb : 0 ≤ b + i) (hb2 : b + i < xs.length) :
    fact_Fact_51.l0 (k + 1) xs a b n i = fact_Fact_51.l0 k ((xs.set (a + i).toNat (rd_T55 xs (b + i))).set (b + i).toNat (rd_T55 xs (a + i))) a b n (i + 1) := by
  unfold Sm at hs
  simp only [fact_Fact_51.l0]
  rw [if_pos h, w64 (n := b + i) (by omega) (by omega), w64 (n := a + i) (by omega) (by omega), w64 (n := i + 1) (by omega) (by omega), if_pos hb, if_pos hb2, if_pos ha, if_pos ha2]
theorem l51_end {xs : List S55} {a b n i : Int} (k : Nat) (h : ¬ i < n) : fact_Fact_51.l0 (k + 1) xs a b n i = some xs := by
  simp only [fact_Fact_51.l0]; rw [if_neg h]
theorem l51_ev : ∀ (X Y P M Q : List S55) (a b n i : Int), X.length = Y.length → Sm (P ++ (X ++ (M ++ (Y ++ Q)))).length → a + i = P.length → b + i = P.length + X.length + M.length → n - i = X.length → n ≤ 1000000000000000000 → 0 ≤ i →
    Ev (fun k => fact_Fact_51.l0 k (P ++ (X ++ (M ++ (Y ++ Q)))) a b n i) (P ++ (Y ++ (M ++ (X ++ Q))))
  | [], [], P, M, Q, a, b, n, i, hl, hs, ha, hb, hn, hn2, hi => by
    exact ⟨1, fun k hk => by obtain ⟨k, rfl⟩ : ∃ j, k = j + 1 := ⟨k - 1, by omega⟩; show fact_Fact_51.l0 (k + 1) _ _ _ _ _ = _; rw [l51_end k (by simp at hn; omega)]⟩
  | x :: X, y :: Y, P, M, Q, a, b, n, i, hl, hs, ha, hb, hn, hn2, hi => by
    have hl' : X.length = Y.length := by simpa using hl
    have hlen : (P ++ ((x :: X) ++ (M ++ ((y :: Y) ++ Q)))).length = P.length + X.length + M.length + Y.length + Q.length + 2 := by simp; omega
    simp only [List.length_cons] at hb hn
    have ih := l51_ev X Y (P ++ [y]) (M ++ [x]) Q a b n (i + 1) hl' (by unfold Sm at hs ⊢; rw [hlen] at hs; simp; omega) (by simp; omega) (by simp; omega) (by omega) hn2 (by omega)
    rw [show P ++ ((y :: Y) ++ (M ++ ((x :: X) ++ Q))) = (P ++ [y]) ++ (Y ++ ((M ++ [x]) ++ (X ++ Q))) by simp]
    refine Ev.step ih fun k => ?_
    show fact_Fact_51.l0 (k + 1) _ _ _ _ _ = _
    rw [l51_step k hs (by omega) hn2 hi (by omega) (by rw [hlen]; omega) (by omega) (by rw [hlen]; omega)]
    have e1 : P ++ ((x :: X) ++ (M ++ ((y :: Y) ++ Q))) = P ++ (x :: ((X ++ M) ++ y :: (Y ++ Q))) := by simp
    have e2 : P ++ ((x :: X) ++ (M ++ ((y :: Y) ++ Q))) = (P ++ (x :: (X ++ M))) ++ y :: (Y ++ Q) := by simp
    have r1 : rd_T55 (P ++ ((x :: X) ++ (M ++ ((y :: Y) ++ Q)))) (a + i) = x := by rw [e1]; exact rd_app _ _ _ _ ha
    have r2 : rd_T55 (P ++ ((x :: X) ++ (M ++ ((y :: Y) ++ Q)))) (b + i) = y := by rw [e2]; exact rd_app _ _ _ _ (by simp; omega)
    rw [r1, r2, e1, swap_app P (X ++ M) (Y ++ Q) x y (a + i) (b + i) ha (by simp; omega)]
    congr 1
    simp
theorem f51_ev (X Y P M Q : List S55) (a b n : Int) (hl : X.length = Y.length) (hs : Sm (P ++ (X ++ (M ++ (Y ++ Q)))).length) (ha : a = P.length) (hb : b = P.length + X.length + M.length) (hn : n = X.length) :
    Ev (fun k => fact_Fact_51.f k (P ++ (X ++ (M ++ (Y ++ Q)))) a b n) (P ++ (Y ++ (M ++ (X ++ Q)))) :=
  l51_ev X Y P M Q a b n 0 hl hs (by omega) (by omega) (by omega) (by unfold Sm at hs; simp at hs; omega) (by omega)

/-! ### the rotation -/
theorem l50_ev : ∀ (n : Nat) (U V P Q : List S55) (m i j : Int), U.length + V.length ≤ n → Sm (P ++ (U ++ (V ++ Q))).length → 0 < U.length → 0 < V.length → i = U.length → j = V.length → m = P.length + U.length →
    Ev (fun k => fact_Fact_50.l0 k (P ++ (U ++ (V ++ Q))) m i j) (P ++ (V ++ (U ++ Q)))
  | 0, U, V, P, Q, m, i, j, hn, hs, hu, hv, hi, hj, hm => by omega
  | n + 1, U, V, P, Q, m, i, j, hn, hs, hu, hv, hi, hj, hm => by
    have hs' : P.length + U.length + V.length + Q.length ≤ 1000000000000000000 := by unfold Sm at hs; simp at hs; omega
    have wm : wrap64 (m - i) = m - i := w64 (by omega) (by omega)
    rcases Nat.lt_trichotomy U.length V.length with h | h | h
    · -- i < j
      obtain ⟨V1, V2, rfl, h2⟩ : ∃ V1 V2, V = V1 ++ V2 ∧ V2.length = U.length := ⟨V.take (V.length - U.length), V.drop (V.length - U.length), (List.take_append_drop _ _).symm, by simp; omega⟩
      have hV : (V1 ++ V2).length = V1.length + V2.length := by simp
      have ex := f51_ev U V2 P V1 Q (m - i) (m + j - i) i h2.symm (by unfold Sm; simp; omega) (by omega) (by omega) (by omega)
      have ih := l50_ev n V2 V1 P (U ++ Q) m i (j - i) (by omega) (by unfold Sm; simp; omega) (by omega) (by omega) (by omega) (by omega) (by omega)
      refine Ev.step (g := fun k => (fact_Fact_51.f k (P ++ (U ++ ((V1 ++ V2) ++ Q))) (m - i) (m + j - i) i).bind fun t => fact_Fact_50.l0 k t m i (j - i)) ?_ fun k => ?_
      · have e : P ++ (U ++ ((V1 ++ V2) ++ Q)) = P ++ (U ++ (V1 ++ (V2 ++ Q))) := by simp
        rw [e]
        have e2 : P ++ ((V1 ++ V2) ++ (U ++ Q)) = P ++ (V1 ++ (V2 ++ (U ++ Q))) := by simp
        rw [e2]
        exact Ev.bind (g := fun k t => fact_Fact_50.l0 k t m i (j - i)) ex (ih.eq fun k => by simp)
      · show fact_Fact_50.l0 (k + 1) _ _ _ _ = _
        simp only [fact_Fact_50.l0]
        rw [if_neg (by omega), if_neg (by omega), wm, w64 (n := m + j) (by omega) (by omega), w64 (n := m + j - i) (by omega) (by omega), w64 (n := j - i) (by omega) (by omega)]
    · -- i = j
      have ex := f51_ev U V P [] Q (m - i) m i h (by unfold Sm; simp; omega) (by omega) (by simp; omega) (by omega)
      refine Ev.step (g := fun k => (fact_Fact_51.f k (P ++ (U ++ (V ++ Q))) (m - i) m i).bind fun t => some t) ?_ fun k => ?_
      · exact Ev.bind (g := fun _ t => some t) (by simpa using ex) (Ev.const fun _ => rfl)
      · show fact_Fact_50.l0 (k + 1) _ _ _ _ = _
        simp only [fact_Fact_50.l0]
        rw [if_pos (by omega), wm]
    · -- i > j
      obtain ⟨U1, U2, rfl, h2⟩ : ∃ U1 U2, U = U1 ++ U2 ∧ U1.length = V.length := ⟨U.take V.length, U.drop V.length, (List.take_append_drop _ _).symm, by simp; omega⟩
      have hU : (U1 ++ U2).length = U1.length + U2.length := by simp
      have ex := f51_ev U1 V P U2 Q (m - i) m j h2 (by unfold Sm; simp; omega) (by omega) (by omega) (by omega)
      have ih := l50_ev n U2 U1 (P ++ V) Q m (i - j) j (by omega) (by unfold Sm; simp; omega) (by omega) (by omega) (by omega) (by omega) (by simp; omega)
      refine Ev.step (g := fun k => (fact_Fact_51.f k (P ++ ((U1 ++ U2) ++ (V ++ Q))) (m - i) m j).bind fun t => fact_Fact_50.l0 k t m (i - j) j) ?_ fun k => ?_
      · have e : P ++ ((U1 ++ U2) ++ (V ++ Q)) = P ++ (U1 ++ (U2 ++ (V ++ Q))) := by simp
        rw [e]
        have e2 : P ++ (V ++ ((U1 ++ U2) ++ Q)) = (P ++ V) ++ (U1 ++ (U2 ++ Q)) := by simp
        rw [e2]
        exact Ev.bind (g := fun k t => fact_Fact_50.l0 k t m (i - j) j) ex (ih.eq fun k => by simp)
      · show fact_Fact_50.l0 (k + 1) _ _ _ _ = _
        simp only [fact_Fact_50.l0]
        rw [if_neg (by omega), if_pos (by omega), wm, w64 (n := i - j) (by omega) (by omega)]
theorem f50_ev (U V P Q : List S55) (a m b : Int) (hs : Sm (P ++ (U ++ (V ++ Q))).length) (hu : 0 < U.length) (hv : 0 < V.length) (ha : a = P.length) (hm : m = a + U.length) (hb : b = m + V.length) :
    Ev (fun k => fact_Fact_50.f k (P ++ (U ++ (V ++ Q))) a m b) (P ++ (V ++ (U ++ Q))) := by
  have hs' : P.length + U.length + V.length + Q.length ≤ 1000000000000000000 := by unfold Sm at hs; simp at hs; omega
  refine Ev.eq (l50_ev _ U V P Q m (m - a) (b - m) (Nat.le_refl _) hs hu hv (by omega) (by omega) (by omega)) fun k => ?_
  show fact_Fact_50.f k _ _ _ _ = _
  unfold fact_Fact_50.f
  rw [w64 (n := m - a) (by omega) (by omega), w64 (n := b - m) (by omega) (by omega)]
end Go.Proofs.Ytdckeflggcefbaa.Y
namespace Go.Proofs.Ytdckeflggcefbaa.Y
open Go.RowKit
set_option linter.unusedVariables false
set_option linter.unusedSimpArgs false
/-- The sum of a key's facts. -/
def amt (x : S44) : List S55 → Int
  | [] => 0
  | y :: l => (if cmpK x y.f0 = 0 then y.f1 else 0) + amt x l
/-- The sum of their sizes. -/
def abt (x : S44) : List S55 → Nat
  | [] => 0
  | y :: l => (if cmpK x y.f0 = 0 then y.f1.natAbs else 0) + abt x l
theorem amt_app (x : S44) : ∀ a b, amt x (a ++ b) = amt x a + amt x b
  | [], b => by simp [amt]
  | y :: a, b => by simp only [List.cons_append, amt, amt_app x a b]; omega
theorem abt_app (x : S44) : ∀ a b, abt x (a ++ b) = abt x a + abt x b
  | [], b => by simp [abt]
  | y :: a, b => by simp only [List.cons_append, abt, abt_app x a b]; omega
theorem amt_le_abt (x : S44) : ∀ l, (amt x l).natAbs ≤ abt x l
  | [] => by simp [amt, abt]
  | y :: l => by
    have := amt_le_abt x l
    simp only [amt, abt]
    split <;> omega
theorem eqv_key (x y : S55) : eqv x y = true ↔ cmpK x.f0 y.f0 = 0 := by simp [eqv, cmpS]
theorem amt_filter (x : S55) : ∀ l, amt x.f0 l = amt x.f0 (l.filter (eqv x))
  | [] => rfl
  | y :: l => by
    have ih := amt_filter x l
    by_cases h : cmpK x.f0 y.f0 = 0
    · rw [List.filter_cons_of_pos ((eqv_key x y).2 h)]
      simp only [amt, ih]
    · rw [List.filter_cons_of_neg (fun e => h ((eqv_key x y).1 e))]
      simp only [amt, if_neg h, ih]; omega
theorem abt_filter (x : S55) : ∀ l, abt x.f0 l = abt x.f0 (l.filter (eqv x))
  | [] => rfl
  | y :: l => by
    have ih := abt_filter x l
    by_cases h : cmpK x.f0 y.f0 = 0
    · rw [List.filter_cons_of_pos ((eqv_key x y).2 h)]
      simp only [abt, ih]
    · rw [List.filter_cons_of_neg (fun e => h ((eqv_key x y).1 e))]
      simp only [abt, if_neg h, ih]; omega
theorem SS.amt {l r : List S55} (h : SS l r) (x : S44) : amt x r = amt x l := by
  rw [amt_filter ⟨x, 0⟩ r, amt_filter ⟨x, 0⟩ l, h.2 ⟨x, 0⟩]
theorem SS.abt {l r : List S55} (h : SS l r) (x : S44) : abt x r = abt x l := by
  rw [abt_filter ⟨x, 0⟩ r, abt_filter ⟨x, 0⟩ l, h.2 ⟨x, 0⟩]
/-- Keys rise. -/
def Rise (l : List S55) : Prop := l.Pairwise fun x y => cmpS x y < 0
theorem amt_none (x : S44) : ∀ l : List S55, (∀ y ∈ l, ¬ cmpK x y.f0 = 0) → amt x l = 0
  | [], _ => rfl
  | y :: l, h => by
    simp only [amt, if_neg (h y (by simp)), amt_none x l (fun z hz => h z (by simp [hz]))]; omega
theorem abt_none (x : S44) : ∀ l : List S55, (∀ y ∈ l, ¬ cmpK x y.f0 = 0) → abt x l = 0
  | [], _ => rfl
  | y :: l, h => by
    simp only [abt, if_neg (h y (by simp)), abt_none x l (fun z hz => h z (by simp [hz]))]
/-- r is the cube of l. -/
structure IsCube (l r : List S55) : Prop where
  rise : Rise r
  some_ : ∀ y ∈ r, y.f1 ≠ 0
  sum : ∀ x, amt x r = amt x l
theorem Rise.head {y : S55} {l : List S55} (h : Rise (y :: l)) : amt y.f0 (y :: l) = y.f1 := by
  have := amt_none y.f0 l (fun z hz e => by have := (List.pairwise_cons.1 h).1 z hz; unfold cmpS at this; omega)
  simp only [amt, cmpK_good.refl, if_true, this]; omega
theorem Rise.below {y : S55} {x : S44} {l : List S55} (h : Rise (y :: l)) (hx : cmpK x y.f0 < 0) : amt x (y :: l) = 0 := by
  refine amt_none x _ fun z hz e => ?_
  rcases List.mem_cons.1 hz with rfl | hz
  · omega
  · have h1 := (List.pairwise_cons.1 h).1 z hz
    have := lt_le (x := ⟨x, 0⟩) (y := y) (z := z) hx (Int.le_of_lt h1)
    unfold cmpS at this
    simp only at this
    omega
theorem cube_one : ∀ (a b : List S55), Rise a → Rise b → (∀ y ∈ a, y.f1 ≠ 0) → (∀ y ∈ b, y.f1 ≠ 0) → (∀ x, amt x a = amt x b) → a = b
  | [], [], _, _, _, _, _ => rfl
  | [], y :: b, _, hb, _, nb, h => by
    have := h y.f0
    rw [hb.head] at this
    exact absurd this.symm (nb y (by simp))
  | y :: a, [], ha, _, na, _, h => by
    have := h y.f0
    rw [ha.head] at this
    exact absurd this (na y (by simp))
  | y :: a, z :: b, ha, hb, na, nb, h => by
    have anti := cmpK_good.anti y.f0 z.f0
    by_cases h1 : cmpK y.f0 z.f0 < 0
    · have := h y.f0
      rw [ha.head, hb.below h1] at this
      exact absurd this (na y (by simp))
    by_cases h2 : cmpK z.f0 y.f0 < 0
    · have := h z.f0
      rw [hb.head, ha.below h2] at this
      exact absurd this.symm (nb z (by simp))
    have e : y.f0 = z.f0 := (cmpK_zero _ _).1 (by omega)
    have e1 : y.f1 = z.f1 := by
      have := h y.f0
      rw [ha.head, e, hb.head] at this
      exact this
    have eyz : y = z := by
      cases y; cases z
      simp only at e e1
      subst e e1
      rfl
    subst eyz
    congr 1
    refine cube_one a b (List.pairwise_cons.1 ha).2 (List.pairwise_cons.1 hb).2 (fun w hw => na w (by simp [hw])) (fun w hw => nb w (by simp [hw])) fun x => ?_
    have := h x
    simp only [amt] at this
    omega
theorem IsCube.unique {l l' a b : List S55} (h : IsCube l a) (g : IsCube l' b) (e : ∀ x, amt x l = amt x l') : a = b :=
  cube_one a b h.rise g.rise h.some_ g.some_ fun x => by rw [h.sum, g.sum, e]
/-- Of a cube a key's sizes are its sum's size. -/
theorem Rise.abt : ∀ (l : List S55), Rise l → ∀ x, abt x l = (amt x l).natAbs
  | [], _, x => rfl
  | y :: l, h, x => by
    have ih := Rise.abt l (List.pairwise_cons.1 h).2 x
    by_cases e : cmpK x y.f0 = 0
    · have hn : ∀ z ∈ l, ¬ cmpK x z.f0 = 0 := fun z hz e2 => by
        have h1 := (List.pairwise_cons.1 h).1 z hz
        have e3 := (cmpK_zero _ _).1 e
        subst e3
        unfold cmpS at h1
        omega
      simp only [Y.abt, amt, if_pos e, abt_none x l hn, amt_none x l hn]
      omega
    · simp only [Y.abt, amt, if_neg e, ih]
      omega
theorem IsCube.abt {l r : List S55} (h : IsCube l r) (x : S44) : abt x r ≤ Y.abt x l := by
  rw [Rise.abt r h.rise x, h.sum]
  exact amt_le_abt x l
end Go.Proofs.Ytdckeflggcefbaa.Y
namespace Go.Proofs.Ytdckeflggcefbaa.Y
open Go.RowKit Go.Proofs.YtdckeflggcefbaaW.PrintWords Go.Proofs.YtdckeflggcefbaaW.PrintLast Go.Proofs.YtdckeflggcefbaaW.PrintMore
attribute [local go_sem] max2_int min2_int max_two min_two max_three min_three max_four min_four
set_option linter.unusedVariables false
set_option linter.unusedSimpArgs false

/-! ### comptrollerlaw09_Few: function 7 -/
def comptrollerlaw09_Few.l0 : Nat → List (S28) → List (S28) → Int → Int → Option (Bool)
 | 0, _, _, _, _ => none
 | k + 1, x0, x6, x7, x8 => if x8 < x7 then (if 0 ≤ x8 then (if x8 < (x6.length : Int) then (if (((rd_T28 x6 x8).f0.f0).size : Int) > 40 then (some false) else (if (((rd_T28 x6 x8).f0.f1).size : Int) > 40 then (some false) else (if (((rd_T28 x6 x8).f0.f2).size : Int) > 40 then (some false) else (if (((rd_T28 x6 x8).f0.f3).size : Int) > 40 then (some false) else (comptrollerlaw09_Few.l0 k x0 x6 x7 (wrap64 (x8 + 1))))))) else (none)) else (none)) else (some (decide ((x0.length : Int) ≤ 150)))
def comptrollerlaw09_Few.f (k : Nat) (l0 : List (S28)) : Option (Bool) := comptrollerlaw09_Few.l0 k l0 l0 (l0.length : Int) 0
theorem comptrollerlaw09_Few.mono_l : ∀ k, (∀ y0 y1 y2 y3, LeO (comptrollerlaw09_Few.l0 k y0 y1 y2 y3) (comptrollerlaw09_Few.l0 (k + 1) y0 y1 y2 y3))
 | 0 => fun _ _ _ _ r h => by simp [comptrollerlaw09_Few.l0] at h
 | k + 1 => by
  have ih0 := comptrollerlaw09_Few.mono_l k
  ·intro y0 y1 y2 y3
   unfold comptrollerlaw09_Few.l0
   with_reducible repeat' first | apply ih0 | refine LeO.refl _ | refine LeO.none _ | refine LeO.ite ?_ ?_ | refine LeO.bind ?_ (fun _ => ?_)
theorem comptrollerlaw09_Few.mono : ∀ a0 k, LeO (comptrollerlaw09_Few.f k a0) (comptrollerlaw09_Few.f (k + 1) a0) := by
 intro a0 k
 have ih0 := comptrollerlaw09_Few.mono_l k
 unfold comptrollerlaw09_Few.f
 with_reducible repeat' first | apply ih0 | refine LeO.refl _ | refine LeO.none _ | refine LeO.ite ?_ ?_ | refine LeO.bind ?_ (fun _ => ?_)
set_option maxHeartbeats 8000000 in
set_option maxRecDepth 100000 in
theorem comptrollerlaw09_Few.calls (k : Nat) (A0 : Option Addr) (c0 : Nat) (l0 : List (S28)) (r : Bool) (w : World) (hr0 : Kd.C k28 w A0 l0.length l0) (hc0 : l0.length ≤ c0) (h : comptrollerlaw09_Few.f k l0 = some r) :
  Calls Try.prog 7 #[.slice A0 l0.length c0] w fun e w' => e = .returned (.bool r) ∧ Below w.heap.size w w' := by
 have hu28 := Try.underlying28; have hu24 := Try.underlying24; have HR0 := Aside0.mk hr0; have HC0 := Aside0.mk hc0; clear hr0 hc0
 have HB := Aside0.mk (Below.refl w.heap.size w)
 have H : (comptrollerlaw09_Few.l0 k l0 l0 (l0.length : Int) 0) = some r := h
 clear h
 have H' := Aside0.mk H
 clear H
 go_enter Try.func7, Try.ntmps7
 go_wp2
 go_loopg [8] k (fun kq v8 w' => ∃ (x8_1 : Int), v8 = .int .i64 x8_1 ∧ Aside0 (comptrollerlaw09_Few.l0 kq l0 l0 (l0.length : Int) x8_1 = some r) ∧ Aside0 (kq ≤ k) ∧ Aside0 (Below w.heap.size w w'))
 case atStart => exact ⟨(0), rs_, H', ⟨Nat.le_refl _⟩, ⟨bw⟩⟩
 case round =>
  clear H'
  obtain ⟨x8_1, rfl, HA, HK1, HB⟩ := hrel
  cases gk with
  | zero => exact absurd HA.out (by simp [comptrollerlaw09_Few.l0])
  | succ k1 =>
   have H := HA.out; clear HA
   simp only [comptrollerlaw09_Few.l0] at H
   by_cases c2 : x8_1 < (l0.length : Int)
   ·rw [if_pos c2] at H
    have c2b0 : decide (x8_1 < (l0.length : Int)) = true := decide_eq_true c2
    clear c2
    by_cases c3 : 0 ≤ x8_1
    ·rw [if_pos c3] at H
     have c3b0 : decide (0 ≤ x8_1) = true := decide_eq_true c3
     clear c3
     by_cases c4 : x8_1 < (l0.length : Int)
     ·rw [if_pos c4] at H
      have c4b0 : decide (x8_1 < (l0.length : Int)) = true := decide_eq_true c4
      clear c4
      by_cases c5 : (((rd_T28 l0 x8_1).f0.f0).size : Int) > 40
      ·rw [if_pos c5] at H
       have c5b0 : decide (40 < (((rd_T28 l0 x8_1).f0.f0).size : Int)) = true := decide_eq_true c5
       have c5b1 : decide (40 < ((rd_T28 l0 x8_1).f0.f0).size) = true := decide_eq_true (by omega)
       clear c5
       obtain rfl := Option.some.inj H
       have p233 : 0 ≤ (x8_1 : Int) := of_decide_eq_true as_
       have q233 : x8_1 < (l0.length : Int) := of_decide_eq_true as_
       obtain ⟨ad233, e233, hx233_0, hx233_1, hx233_2, hx233_3, hx233_4, hx233_5⟩ := at_T28 HR0.out x8_1 p233 q233
       cases e233; replace hx233_0 := cb HB hx233_0; replace hx233_1 := cb HB hx233_1; replace hx233_2 := cb HB hx233_2; replace hx233_3 := cb HB hx233_3; replace hx233_4 := cb HB hx233_4; replace hx233_5 := cb HB hx233_5; replace p233 := eq_true p233; replace q233 := eq_true q233
       go_wp2_with (first | ((with_reducible refine gate_dst (N := 4) rfl ?_); (try (refine gate_guard (by rfl) ?_; dsimp only)); refine box_event ?hg (N := 4) ?hd (cs := #[.string (⟨#[]⟩ : ByteArray), .string (⟨#[]⟩ : ByteArray), .string (⟨#[]⟩ : ByteArray), .string (⟨#[]⟩ : ByteArray), .int .i64 0, .int .i64 0]) (t := 28) ?hr ?_; (case hd => rfl); (case hg => rfl); (case hr => first | (go_simp; done) | (go_simp; rfl)); intro gb234 hg w6 hbox hb; have n0_ := Aside0.mk (below_step bw hb); have n1_ := Aside0.mk (hbox); have n2_ := Aside0.mk ((by rw [hg]; exact (below_size bw) : w.heap.size ≤ gb234)); have n3_ := Aside0.mk ((by rw [hg]; exact (below_size bw) : w.heap.size ≤ gb234)); clear HB; have HB := n0_; have BK234 := n1_; have GW234 := n2_; have GE234 := n3_; clear n0_ n1_ n2_ n3_; clear hb hbox hg; obtain ⟨hcz7_0, hcz7_1, hcz7_2, hcz7_3, hcz7_4, hcz7_5⟩ := bc6 BK234.out; have hfz7_0 := blk_frozen BK234.out 0; have hfz7_1 := blk_frozen BK234.out 1; have hfz7_2 := blk_frozen BK234.out 2; have hfz7_3 := blk_frozen BK234.out 3; have hfz7_4 := blk_frozen BK234.out 4; have hfz7_5 := blk_frozen BK234.out 5) | ((with_reducible refine gate_dst (N := 5) rfl ?_); (try (refine gate_guard (by rfl) ?_; dsimp only)); refine box_event ?hg (N := 5) ?hd (cs := #[.string (⟨#[]⟩ : ByteArray), .string (⟨#[]⟩ : ByteArray), .string (⟨#[]⟩ : ByteArray), .string (⟨#[]⟩ : ByteArray), .int .i64 0]) (t := 24) ?hr ?_; (case hd => rfl); (case hg => rfl); (case hr => first | (go_simp; done) | (go_simp; rfl)); intro gb235 hg w8 hbox hb; have n0_ := Aside0.mk (blk_below (g := gb234) (o := .cells #[.string ((rd_T28 l0 x8_1).f0.f0), .string ((rd_T28 l0 x8_1).f0.f1), .string ((rd_T28 l0 x8_1).f0.f2), .string ((rd_T28 l0 x8_1).f0.f3), .int .i64 ((rd_T28 l0 x8_1).f0.f4), .int .i64 ((rd_T28 l0 x8_1).f1)] 28 (0, 0)) (bp28 BK234 (rd_T28 l0 x8_1)) hb); have n1_ := Aside0.mk (below_step bx hb); have n2_ := Aside0.mk (hbox); have n3_ := Aside0.mk ((by rw [hg]; exact (below_size bx) : w.heap.size ≤ gb235)); have n4_ := Aside0.mk ((by rw [hg]; exact (below_size bx) : w.heap.size ≤ gb235)); have n5_ := Aside0.mk ((by rw [hg]; exact Nat.ne_of_lt (blk_lt (g := gb234) (o := .cells #[.string ((rd_T28 l0 x8_1).f0.f0), .string ((rd_T28 l0 x8_1).f0.f1), .string ((rd_T28 l0 x8_1).f0.f2), .string ((rd_T28 l0 x8_1).f0.f3), .int .i64 ((rd_T28 l0 x8_1).f0.f4), .int .i64 ((rd_T28 l0 x8_1).f1)] 28 (0, 0)) (bp28 BK234 (rd_T28 l0 x8_1))) : gb234 ≠ gb235)); have n6_ := Aside0.mk ((by rw [hg]; exact Nat.ne_of_gt (blk_lt (g := gb234) (o := .cells #[.string ((rd_T28 l0 x8_1).f0.f0), .string ((rd_T28 l0 x8_1).f0.f1), .string ((rd_T28 l0 x8_1).f0.f2), .string ((rd_T28 l0 x8_1).f0.f3), .int .i64 ((rd_T28 l0 x8_1).f0.f4), .int .i64 ((rd_T28 l0 x8_1).f1)] 28 (0, 0)) (bp28 BK234 (rd_T28 l0 x8_1))) : gb235 ≠ gb234)); clear BK234; clear HB; have BK234 := n0_; have HB := n1_; have BK235 := n2_; have GW235 := n3_; have GE235 := n4_; have NB234_235 := n5_; have NB235_234 := n6_; clear n0_ n1_ n2_ n3_ n4_ n5_ n6_; clear hb hbox hg; have hnb9 := NB235_234.out; have hnc9 := NB234_235.out; obtain ⟨hcz10_0, hcz10_1, hcz10_2, hcz10_3, hcz10_4⟩ := bc5 BK235.out; have hfz10_0 := blk_frozen BK235.out 0; have hfz10_1 := blk_frozen BK235.out 1; have hfz10_2 := blk_frozen BK235.out 2; have hfz10_3 := blk_frozen BK235.out 3; have hfz10_4 := blk_frozen BK235.out 4))
       go_ret
       exact ⟨re_, bx⟩
      ·rw [if_neg c5] at H
       have c5b0 : decide (40 < (((rd_T28 l0 x8_1).f0.f0).size : Int)) = false := decide_eq_false c5
       have c5b1 : decide (40 < ((rd_T28 l0 x8_1).f0.f0).size) = false := decide_eq_false (by omega)
       clear c5
       by_cases c11 : (((rd_T28 l0 x8_1).f0.f1).size : Int) > 40
       ·rw [if_pos c11] at H
        have c11b0 : decide (40 < (((rd_T28 l0 x8_1).f0.f1).size : Int)) = true := decide_eq_true c11
        have c11b1 : decide (40 < ((rd_T28 l0 x8_1).f0.f1).size) = true := decide_eq_true (by omega)
        clear c11
        obtain rfl := Option.some.inj H
        have p233 : 0 ≤ (x8_1 : Int) := of_decide_eq_true as_
        have q233 : x8_1 < (l0.length : Int) := of_decide_eq_true as_
        obtain ⟨ad233, e233, hx233_0, hx233_1, hx233_2, hx233_3, hx233_4, hx233_5⟩ := at_T28 HR0.out x8_1 p233 q233
        cases e233; replace hx233_0 := cb HB hx233_0; replace hx233_1 := cb HB hx233_1; replace hx233_2 := cb HB hx233_2; replace hx233_3 := cb HB hx233_3; replace hx233_4 := cb HB hx233_4; replace hx233_5 := cb HB hx233_5; replace p233 := eq_true p233; replace q233 := eq_true q233
        go_wp2_with (first | ((with_reducible refine gate_dst (N := 4) rfl ?_); (try (refine gate_guard (by rfl) ?_; dsimp only)); refine box_event ?hg (N := 4) ?hd (cs := #[.string (⟨#[]⟩ : ByteArray), .string (⟨#[]⟩ : ByteArray), .string (⟨#[]⟩ : ByteArray), .string (⟨#[]⟩ : ByteArray), .int .i64 0, .int .i64 0]) (t := 28) ?hr ?_; (case hd => rfl); (case hg => rfl); (case hr => first | (go_simp; done) | (go_simp; rfl)); intro gb234 hg w12 hbox hb; have n0_ := Aside0.mk (below_step bw hb); have n1_ := Aside0.mk (hbox); have n2_ := Aside0.mk ((by rw [hg]; exact (below_size bw) : w.heap.size ≤ gb234)); have n3_ := Aside0.mk ((by rw [hg]; exact (below_size bw) : w.heap.size ≤ gb234)); clear HB; have HB := n0_; have BK234 := n1_; have GW234 := n2_; have GE234 := n3_; clear n0_ n1_ n2_ n3_; clear hb hbox hg; obtain ⟨hcz13_0, hcz13_1, hcz13_2, hcz13_3, hcz13_4, hcz13_5⟩ := bc6 BK234.out; have hfz13_0 := blk_frozen BK234.out 0; have hfz13_1 := blk_frozen BK234.out 1; have hfz13_2 := blk_frozen BK234.out 2; have hfz13_3 := blk_frozen BK234.out 3; have hfz13_4 := blk_frozen BK234.out 4; have hfz13_5 := blk_frozen BK234.out 5) | ((with_reducible refine gate_dst (N := 5) rfl ?_); (try (refine gate_guard (by rfl) ?_; dsimp only)); refine box_event ?hg (N := 5) ?hd (cs := #[.string (⟨#[]⟩ : ByteArray), .string (⟨#[]⟩ : ByteArray), .string (⟨#[]⟩ : ByteArray), .string (⟨#[]⟩ : ByteArray), .int .i64 0]) (t := 24) ?hr ?_; (case hd => rfl); (case hg => rfl); (case hr => first | (go_simp; done) | (go_simp; rfl)); intro gb235 hg w14 hbox hb; have n0_ := Aside0.mk (blk_below (g := gb234) (o := .cells #[.string ((rd_T28 l0 x8_1).f0.f0), .string ((rd_T28 l0 x8_1).f0.f1), .string ((rd_T28 l0 x8_1).f0.f2), .string ((rd_T28 l0 x8_1).f0.f3), .int .i64 ((rd_T28 l0 x8_1).f0.f4), .int .i64 ((rd_T28 l0 x8_1).f1)] 28 (0, 0)) (bp28 BK234 (rd_T28 l0 x8_1)) hb); have n1_ := Aside0.mk (below_step bx hb); have n2_ := Aside0.mk (hbox); have n3_ := Aside0.mk ((by rw [hg]; exact (below_size bx) : w.heap.size ≤ gb235)); have n4_ := Aside0.mk ((by rw [hg]; exact (below_size bx) : w.heap.size ≤ gb235)); have n5_ := Aside0.mk ((by rw [hg]; exact Nat.ne_of_lt (blk_lt (g := gb234) (o := .cells #[.string ((rd_T28 l0 x8_1).f0.f0), .string ((rd_T28 l0 x8_1).f0.f1), .string ((rd_T28 l0 x8_1).f0.f2), .string ((rd_T28 l0 x8_1).f0.f3), .int .i64 ((rd_T28 l0 x8_1).f0.f4), .int .i64 ((rd_T28 l0 x8_1).f1)] 28 (0, 0)) (bp28 BK234 (rd_T28 l0 x8_1))) : gb234 ≠ gb235)); have n6_ := Aside0.mk ((by rw [hg]; exact Nat.ne_of_gt (blk_lt (g := gb234) (o := .cells #[.string ((rd_T28 l0 x8_1).f0.f0), .string ((rd_T28 l0 x8_1).f0.f1), .string ((rd_T28 l0 x8_1).f0.f2), .string ((rd_T28 l0 x8_1).f0.f3), .int .i64 ((rd_T28 l0 x8_1).f0.f4), .int .i64 ((rd_T28 l0 x8_1).f1)] 28 (0, 0)) (bp28 BK234 (rd_T28 l0 x8_1))) : gb235 ≠ gb234)); clear BK234; clear HB; have BK234 := n0_; have HB := n1_; have BK235 := n2_; have GW235 := n3_; have GE235 := n4_; have NB234_235 := n5_; have NB235_234 := n6_; clear n0_ n1_ n2_ n3_ n4_ n5_ n6_; clear hb hbox hg; have hnb15 := NB235_234.out; have hnc15 := NB234_235.out; obtain ⟨hcz16_0, hcz16_1, hcz16_2, hcz16_3, hcz16_4⟩ := bc5 BK235.out; have hfz16_0 := blk_frozen BK235.out 0; have hfz16_1 := blk_frozen BK235.out 1; have hfz16_2 := blk_frozen BK235.out 2; have hfz16_3 := blk_frozen BK235.out 3; have hfz16_4 := blk_frozen BK235.out 4))
        go_ret
        exact ⟨re_, bx⟩
       ·rw [if_neg c11] at H
        have c11b0 : decide (40 < (((rd_T28 l0 x8_1).f0.f1).size : Int)) = false := decide_eq_false c11
        have c11b1 : decide (40 < ((rd_T28 l0 x8_1).f0.f1).size) = false := decide_eq_false (by omega)
        clear c11
        by_cases c17 : (((rd_T28 l0 x8_1).f0.f2).size : Int) > 40
        ·rw [if_pos c17] at H
         have c17b0 : decide (40 < (((rd_T28 l0 x8_1).f0.f2).size : Int)) = true := decide_eq_true c17
         have c17b1 : decide (40 < ((rd_T28 l0 x8_1).f0.f2).size) = true := decide_eq_true (by omega)
         clear c17
         obtain rfl := Option.some.inj H
         have p233 : 0 ≤ (x8_1 : Int) := of_decide_eq_true as_
         have q233 : x8_1 < (l0.length : Int) := of_decide_eq_true as_
         obtain ⟨ad233, e233, hx233_0, hx233_1, hx233_2, hx233_3, hx233_4, hx233_5⟩ := at_T28 HR0.out x8_1 p233 q233
         cases e233; replace hx233_0 := cb HB hx233_0; replace hx233_1 := cb HB hx233_1; replace hx233_2 := cb HB hx233_2; replace hx233_3 := cb HB hx233_3; replace hx233_4 := cb HB hx233_4; replace hx233_5 := cb HB hx233_5; replace p233 := eq_true p233; replace q233 := eq_true q233
         go_wp2_with (first | ((with_reducible refine gate_dst (N := 4) rfl ?_); (try (refine gate_guard (by rfl) ?_; dsimp only)); refine box_event ?hg (N := 4) ?hd (cs := #[.string (⟨#[]⟩ : ByteArray), .string (⟨#[]⟩ : ByteArray), .string (⟨#[]⟩ : ByteArray), .string (⟨#[]⟩ : ByteArray), .int .i64 0, .int .i64 0]) (t := 28) ?hr ?_; (case hd => rfl); (case hg => rfl); (case hr => first | (go_simp; done) | (go_simp; rfl)); intro gb234 hg w18 hbox hb; have n0_ := Aside0.mk (below_step bw hb); have n1_ := Aside0.mk (hbox); have n2_ := Aside0.mk ((by rw [hg]; exact (below_size bw) : w.heap.size ≤ gb234)); have n3_ := Aside0.mk ((by rw [hg]; exact (below_size bw) : w.heap.size ≤ gb234)); clear HB; have HB := n0_; have BK234 := n1_; have GW234 := n2_; have GE234 := n3_; clear n0_ n1_ n2_ n3_; clear hb hbox hg; obtain ⟨hcz19_0, hcz19_1, hcz19_2, hcz19_3, hcz19_4, hcz19_5⟩ := bc6 BK234.out; have hfz19_0 := blk_frozen BK234.out 0; have hfz19_1 := blk_frozen BK234.out 1; have hfz19_2 := blk_frozen BK234.out 2; have hfz19_3 := blk_frozen BK234.out 3; have hfz19_4 := blk_frozen BK234.out 4; have hfz19_5 := blk_frozen BK234.out 5) | ((with_reducible refine gate_dst (N := 5) rfl ?_); (try (refine gate_guard (by rfl) ?_; dsimp only)); refine box_event ?hg (N := 5) ?hd (cs := #[.string (⟨#[]⟩ : ByteArray), .string (⟨#[]⟩ : ByteArray), .string (⟨#[]⟩ : ByteArray), .string (⟨#[]⟩ : ByteArray), .int .i64 0]) (t := 24) ?hr ?_; (case hd => rfl); (case hg => rfl); (case hr => first | (go_simp; done) | (go_simp; rfl)); intro gb235 hg w20 hbox hb; have n0_ := Aside0.mk (blk_below (g := gb234) (o := .cells #[.string ((rd_T28 l0 x8_1).f0.f0), .string ((rd_T28 l0 x8_1).f0.f1), .string ((rd_T28 l0 x8_1).f0.f2), .string ((rd_T28 l0 x8_1).f0.f3), .int .i64 ((rd_T28 l0 x8_1).f0.f4), .int .i64 ((rd_T28 l0 x8_1).f1)] 28 (0, 0)) (bp28 BK234 (rd_T28 l0 x8_1)) hb); have n1_ := Aside0.mk (below_step bx hb); have n2_ := Aside0.mk (hbox); have n3_ := Aside0.mk ((by rw [hg]; exact (below_size bx) : w.heap.size ≤ gb235)); have n4_ := Aside0.mk ((by rw [hg]; exact (below_size bx) : w.heap.size ≤ gb235)); have n5_ := Aside0.mk ((by rw [hg]; exact Nat.ne_of_lt (blk_lt (g := gb234) (o := .cells #[.string ((rd_T28 l0 x8_1).f0.f0), .string ((rd_T28 l0 x8_1).f0.f1), .string ((rd_T28 l0 x8_1).f0.f2), .string ((rd_T28 l0 x8_1).f0.f3), .int .i64 ((rd_T28 l0 x8_1).f0.f4), .int .i64 ((rd_T28 l0 x8_1).f1)] 28 (0, 0)) (bp28 BK234 (rd_T28 l0 x8_1))) : gb234 ≠ gb235)); have n6_ := Aside0.mk ((by rw [hg]; exact Nat.ne_of_gt (blk_lt (g := gb234) (o := .cells #[.string ((rd_T28 l0 x8_1).f0.f0), .string ((rd_T28 l0 x8_1).f0.f1), .string ((rd_T28 l0 x8_1).f0.f2), .string ((rd_T28 l0 x8_1).f0.f3), .int .i64 ((rd_T28 l0 x8_1).f0.f4), .int .i64 ((rd_T28 l0 x8_1).f1)] 28 (0, 0)) (bp28 BK234 (rd_T28 l0 x8_1))) : gb235 ≠ gb234)); clear BK234; clear HB; have BK234 := n0_; have HB := n1_; have BK235 := n2_; have GW235 := n3_; have GE235 := n4_; have NB234_235 := n5_; have NB235_234 := n6_; clear n0_ n1_ n2_ n3_ n4_ n5_ n6_; clear hb hbox hg; have hnb21 := NB235_234.out; have hnc21 := NB234_235.out; obtain ⟨hcz22_0, hcz22_1, hcz22_2, hcz22_3, hcz22_4⟩ := bc5 BK235.out; have hfz22_0 := blk_frozen BK235.out 0; have hfz22_1 := blk_frozen BK235.out 1; have hfz22_2 := blk_frozen BK235.out 2; have hfz22_3 := blk_frozen BK235.out 3; have hfz22_4 := blk_frozen BK235.out 4))
         go_ret
         exact ⟨re_, bx⟩
        ·rw [if_neg c17] at H
         have c17b0 : decide (40 < (((rd_T28 l0 x8_1).f0.f2).size : Int)) = false := decide_eq_false c17
         have c17b1 : decide (40 < ((rd_T28 l0 x8_1).f0.f2).size) = false := decide_eq_false (by omega)
         clear c17
         by_cases c23 : (((rd_T28 l0 x8_1).f0.f3).size : Int) > 40
         ·rw [if_pos c23] at H
          have c23b0 : decide (40 < (((rd_T28 l0 x8_1).f0.f3).size : Int)) = true := decide_eq_true c23
          have c23b1 : decide (40 < ((rd_T28 l0 x8_1).f0.f3).size) = true := decide_eq_true (by omega)
          clear c23
          obtain rfl := Option.some.inj H
          have p233 : 0 ≤ (x8_1 : Int) := of_decide_eq_true as_
          have q233 : x8_1 < (l0.length : Int) := of_decide_eq_true as_
          obtain ⟨ad233, e233, hx233_0, hx233_1, hx233_2, hx233_3, hx233_4, hx233_5⟩ := at_T28 HR0.out x8_1 p233 q233
          cases e233; replace hx233_0 := cb HB hx233_0; replace hx233_1 := cb HB hx233_1; replace hx233_2 := cb HB hx233_2; replace hx233_3 := cb HB hx233_3; replace hx233_4 := cb HB hx233_4; replace hx233_5 := cb HB hx233_5; replace p233 := eq_true p233; replace q233 := eq_true q233
          go_wp2_with (first | ((with_reducible refine gate_dst (N := 4) rfl ?_); (try (refine gate_guard (by rfl) ?_; dsimp only)); refine box_event ?hg (N := 4) ?hd (cs := #[.string (⟨#[]⟩ : ByteArray), .string (⟨#[]⟩ : ByteArray), .string (⟨#[]⟩ : ByteArray), .string (⟨#[]⟩ : ByteArray), .int .i64 0, .int .i64 0]) (t := 28) ?hr ?_; (case hd => rfl); (case hg => rfl); (case hr => first | (go_simp; done) | (go_simp; rfl)); intro gb234 hg w24 hbox hb; have n0_ := Aside0.mk (below_step bw hb); have n1_ := Aside0.mk (hbox); have n2_ := Aside0.mk ((by rw [hg]; exact (below_size bw) : w.heap.size ≤ gb234)); have n3_ := Aside0.mk ((by rw [hg]; exact (below_size bw) : w.heap.size ≤ gb234)); clear HB; have HB := n0_; have BK234 := n1_; have GW234 := n2_; have GE234 := n3_; clear n0_ n1_ n2_ n3_; clear hb hbox hg; obtain ⟨hcz25_0, hcz25_1, hcz25_2, hcz25_3, hcz25_4, hcz25_5⟩ := bc6 BK234.out; have hfz25_0 := blk_frozen BK234.out 0; have hfz25_1 := blk_frozen BK234.out 1; have hfz25_2 := blk_frozen BK234.out 2; have hfz25_3 := blk_frozen BK234.out 3; have hfz25_4 := blk_frozen BK234.out 4; have hfz25_5 := blk_frozen BK234.out 5) | ((with_reducible refine gate_dst (N := 5) rfl ?_); (try (refine gate_guard (by rfl) ?_; dsimp only)); refine box_event ?hg (N := 5) ?hd (cs := #[.string (⟨#[]⟩ : ByteArray), .string (⟨#[]⟩ : ByteArray), .string (⟨#[]⟩ : ByteArray), .string (⟨#[]⟩ : ByteArray), .int .i64 0]) (t := 24) ?hr ?_; (case hd => rfl); (case hg => rfl); (case hr => first | (go_simp; done) | (go_simp; rfl)); intro gb235 hg w26 hbox hb; have n0_ := Aside0.mk (blk_below (g := gb234) (o := .cells #[.string ((rd_T28 l0 x8_1).f0.f0), .string ((rd_T28 l0 x8_1).f0.f1), .string ((rd_T28 l0 x8_1).f0.f2), .string ((rd_T28 l0 x8_1).f0.f3), .int .i64 ((rd_T28 l0 x8_1).f0.f4), .int .i64 ((rd_T28 l0 x8_1).f1)] 28 (0, 0)) (bp28 BK234 (rd_T28 l0 x8_1)) hb); have n1_ := Aside0.mk (below_step bx hb); have n2_ := Aside0.mk (hbox); have n3_ := Aside0.mk ((by rw [hg]; exact (below_size bx) : w.heap.size ≤ gb235)); have n4_ := Aside0.mk ((by rw [hg]; exact (below_size bx) : w.heap.size ≤ gb235)); have n5_ := Aside0.mk ((by rw [hg]; exact Nat.ne_of_lt (blk_lt (g := gb234) (o := .cells #[.string ((rd_T28 l0 x8_1).f0.f0), .string ((rd_T28 l0 x8_1).f0.f1), .string ((rd_T28 l0 x8_1).f0.f2), .string ((rd_T28 l0 x8_1).f0.f3), .int .i64 ((rd_T28 l0 x8_1).f0.f4), .int .i64 ((rd_T28 l0 x8_1).f1)] 28 (0, 0)) (bp28 BK234 (rd_T28 l0 x8_1))) : gb234 ≠ gb235)); have n6_ := Aside0.mk ((by rw [hg]; exact Nat.ne_of_gt (blk_lt (g := gb234) (o := .cells #[.string ((rd_T28 l0 x8_1).f0.f0), .string ((rd_T28 l0 x8_1).f0.f1), .string ((rd_T28 l0 x8_1).f0.f2), .string ((rd_T28 l0 x8_1).f0.f3), .int .i64 ((rd_T28 l0 x8_1).f0.f4), .int .i64 ((rd_T28 l0 x8_1).f1)] 28 (0, 0)) (bp28 BK234 (rd_T28 l0 x8_1))) : gb235 ≠ gb234)); clear BK234; clear HB; have BK234 := n0_; have HB := n1_; have BK235 := n2_; have GW235 := n3_; have GE235 := n4_; have NB234_235 := n5_; have NB235_234 := n6_; clear n0_ n1_ n2_ n3_ n4_ n5_ n6_; clear hb hbox hg; have hnb27 := NB235_234.out; have hnc27 := NB234_235.out; obtain ⟨hcz28_0, hcz28_1, hcz28_2, hcz28_3, hcz28_4⟩ := bc5 BK235.out; have hfz28_0 := blk_frozen BK235.out 0; have hfz28_1 := blk_frozen BK235.out 1; have hfz28_2 := blk_frozen BK235.out 2; have hfz28_3 := blk_frozen BK235.out 3; have hfz28_4 := blk_frozen BK235.out 4))
          go_ret
          exact ⟨re_, bx⟩
         ·rw [if_neg c23] at H
          have c23b0 : decide (40 < (((rd_T28 l0 x8_1).f0.f3).size : Int)) = false := decide_eq_false c23
          have c23b1 : decide (40 < ((rd_T28 l0 x8_1).f0.f3).size) = false := decide_eq_false (by omega)
          clear c23
          have H' := Aside0.mk H
          clear H
          have p233 : 0 ≤ (x8_1 : Int) := of_decide_eq_true as_
          have q233 : x8_1 < (l0.length : Int) := of_decide_eq_true as_
          obtain ⟨ad233, e233, hx233_0, hx233_1, hx233_2, hx233_3, hx233_4, hx233_5⟩ := at_T28 HR0.out x8_1 p233 q233
          cases e233; replace hx233_0 := cb HB hx233_0; replace hx233_1 := cb HB hx233_1; replace hx233_2 := cb HB hx233_2; replace hx233_3 := cb HB hx233_3; replace hx233_4 := cb HB hx233_4; replace hx233_5 := cb HB hx233_5; replace p233 := eq_true p233; replace q233 := eq_true q233
          go_wp2_with (first | ((with_reducible refine gate_dst (N := 4) rfl ?_); (try (refine gate_guard (by rfl) ?_; dsimp only)); refine box_event ?hg (N := 4) ?hd (cs := #[.string (⟨#[]⟩ : ByteArray), .string (⟨#[]⟩ : ByteArray), .string (⟨#[]⟩ : ByteArray), .string (⟨#[]⟩ : ByteArray), .int .i64 0, .int .i64 0]) (t := 28) ?hr ?_; (case hd => rfl); (case hg => rfl); (case hr => first | (go_simp; done) | (go_simp; rfl)); intro gb234 hg w29 hbox hb; have n0_ := Aside0.mk (below_step bw hb); have n1_ := Aside0.mk (hbox); have n2_ := Aside0.mk ((by rw [hg]; exact (below_size bw) : w.heap.size ≤ gb234)); have n3_ := Aside0.mk ((by rw [hg]; exact (below_size bw) : w.heap.size ≤ gb234)); clear HB; have HB := n0_; have BK234 := n1_; have GW234 := n2_; have GE234 := n3_; clear n0_ n1_ n2_ n3_; clear hb hbox hg; obtain ⟨hcz30_0, hcz30_1, hcz30_2, hcz30_3, hcz30_4, hcz30_5⟩ := bc6 BK234.out; have hfz30_0 := blk_frozen BK234.out 0; have hfz30_1 := blk_frozen BK234.out 1; have hfz30_2 := blk_frozen BK234.out 2; have hfz30_3 := blk_frozen BK234.out 3; have hfz30_4 := blk_frozen BK234.out 4; have hfz30_5 := blk_frozen BK234.out 5) | ((with_reducible refine gate_dst (N := 5) rfl ?_); (try (refine gate_guard (by rfl) ?_; dsimp only)); refine box_event ?hg (N := 5) ?hd (cs := #[.string (⟨#[]⟩ : ByteArray), .string (⟨#[]⟩ : ByteArray), .string (⟨#[]⟩ : ByteArray), .string (⟨#[]⟩ : ByteArray), .int .i64 0]) (t := 24) ?hr ?_; (case hd => rfl); (case hg => rfl); (case hr => first | (go_simp; done) | (go_simp; rfl)); intro gb235 hg w31 hbox hb; have n0_ := Aside0.mk (blk_below (g := gb234) (o := .cells #[.string ((rd_T28 l0 x8_1).f0.f0), .string ((rd_T28 l0 x8_1).f0.f1), .string ((rd_T28 l0 x8_1).f0.f2), .string ((rd_T28 l0 x8_1).f0.f3), .int .i64 ((rd_T28 l0 x8_1).f0.f4), .int .i64 ((rd_T28 l0 x8_1).f1)] 28 (0, 0)) (bp28 BK234 (rd_T28 l0 x8_1)) hb); have n1_ := Aside0.mk (below_step bx hb); have n2_ := Aside0.mk (hbox); have n3_ := Aside0.mk ((by rw [hg]; exact (below_size bx) : w.heap.size ≤ gb235)); have n4_ := Aside0.mk ((by rw [hg]; exact (below_size bx) : w.heap.size ≤ gb235)); have n5_ := Aside0.mk ((by rw [hg]; exact Nat.ne_of_lt (blk_lt (g := gb234) (o := .cells #[.string ((rd_T28 l0 x8_1).f0.f0), .string ((rd_T28 l0 x8_1).f0.f1), .string ((rd_T28 l0 x8_1).f0.f2), .string ((rd_T28 l0 x8_1).f0.f3), .int .i64 ((rd_T28 l0 x8_1).f0.f4), .int .i64 ((rd_T28 l0 x8_1).f1)] 28 (0, 0)) (bp28 BK234 (rd_T28 l0 x8_1))) : gb234 ≠ gb235)); have n6_ := Aside0.mk ((by rw [hg]; exact Nat.ne_of_gt (blk_lt (g := gb234) (o := .cells #[.string ((rd_T28 l0 x8_1).f0.f0), .string ((rd_T28 l0 x8_1).f0.f1), .string ((rd_T28 l0 x8_1).f0.f2), .string ((rd_T28 l0 x8_1).f0.f3), .int .i64 ((rd_T28 l0 x8_1).f0.f4), .int .i64 ((rd_T28 l0 x8_1).f1)] 28 (0, 0)) (bp28 BK234 (rd_T28 l0 x8_1))) : gb235 ≠ gb234)); clear BK234; clear HB; have BK234 := n0_; have HB := n1_; have BK235 := n2_; have GW235 := n3_; have GE235 := n4_; have NB234_235 := n5_; have NB235_234 := n6_; clear n0_ n1_ n2_ n3_ n4_ n5_ n6_; clear hb hbox hg; have hnb32 := NB235_234.out; have hnc32 := NB234_235.out; obtain ⟨hcz33_0, hcz33_1, hcz33_2, hcz33_3, hcz33_4⟩ := bc5 BK235.out; have hfz33_0 := blk_frozen BK235.out 0; have hfz33_1 := blk_frozen BK235.out 1; have hfz33_2 := blk_frozen BK235.out 2; have hfz33_3 := blk_frozen BK235.out 3; have hfz33_4 := blk_frozen BK235.out 4))
          go_roundg k1
          case measure => have := HK1.out; omega
          case rel => exact ⟨(wrap64 (x8_1 + 1)), rs_, H', ⟨by have := HK1.out; omega⟩, ⟨bx⟩⟩
     ·rw [if_neg c4] at H
      exact absurd H (by simp)
    ·rw [if_neg c3] at H
     exact absurd H (by simp)
   ·rw [if_neg c2] at H
    have c2b0 : decide (x8_1 < (l0.length : Int)) = false := decide_eq_false c2
    clear c2
    obtain rfl := Option.some.inj H
    go_wp2; go_ret
    exact ⟨re_, bw⟩
/-! ### comptrollerlaw09_small: function 20 -/
def comptrollerlaw09_small.l0 : Nat → List (S28) → Int → Int → Option (Bool)
 | 0, _, _, _ => none
 | k + 1, x5, x6, x7 => if x7 < x6 then (if 0 ≤ x7 then (if x7 < (x5.length : Int) then (if ((rd_T28 x5 x7).f1) > 4503599627370496 then (some false) else (if ((rd_T28 x5 x7).f1) < (-4503599627370496) then (some false) else (comptrollerlaw09_small.l0 k x5 x6 (wrap64 (x7 + 1))))) else (none)) else (none)) else (some true)
def comptrollerlaw09_small.f (k : Nat) (l0 : List (S28)) : Option (Bool) := comptrollerlaw09_small.l0 k l0 (l0.length : Int) 0
theorem comptrollerlaw09_small.mono_l : ∀ k, (∀ y0 y1 y2, LeO (comptrollerlaw09_small.l0 k y0 y1 y2) (comptrollerlaw09_small.l0 (k + 1) y0 y1 y2))
 | 0 => fun _ _ _ r h => by simp [comptrollerlaw09_small.l0] at h
 | k + 1 => by
  have ih0 := comptrollerlaw09_small.mono_l k
  ·intro y0 y1 y2
   unfold comptrollerlaw09_small.l0
   with_reducible repeat' first | apply ih0 | refine LeO.refl _ | refine LeO.none _ | refine LeO.ite ?_ ?_ | refine LeO.bind ?_ (fun _ => ?_)
theorem comptrollerlaw09_small.mono : ∀ a0 k, LeO (comptrollerlaw09_small.f k a0) (comptrollerlaw09_small.f (k + 1) a0) := by
 intro a0 k
 have ih0 := comptrollerlaw09_small.mono_l k
 unfold comptrollerlaw09_small.f
 with_reducible repeat' first | apply ih0 | refine LeO.refl _ | refine LeO.none _ | refine LeO.ite ?_ ?_ | refine LeO.bind ?_ (fun _ => ?_)
set_option maxHeartbeats 8000000 in
set_option maxRecDepth 100000 in
theorem comptrollerlaw09_small.calls (k : Nat) (A0 : Option Addr) (c0 : Nat) (l0 : List (S28)) (r : Bool) (w : World) (hr0 : Kd.C k28 w A0 l0.length l0) (hc0 : l0.length ≤ c0) (h : comptrollerlaw09_small.f k l0 = some r) :
  Calls Try.prog 20 #[.slice A0 l0.length c0] w fun e w' => e = .returned (.bool r) ∧ Below w.heap.size w w' := by
 have hu28 := Try.underlying28; have HR0 := Aside0.mk hr0; have HC0 := Aside0.mk hc0; clear hr0 hc0
 have HB := Aside0.mk (Below.refl w.heap.size w)
 have H : (comptrollerlaw09_small.l0 k l0 (l0.length : Int) 0) = some r := h
 clear h
 have H' := Aside0.mk H
 clear H
 go_enter Try.func20, Try.ntmps20
 go_wp2
 go_loopg [7] k (fun kq v7 w' => ∃ (x7_1 : Int), v7 = .int .i64 x7_1 ∧ Aside0 (comptrollerlaw09_small.l0 kq l0 (l0.length : Int) x7_1 = some r) ∧ Aside0 (kq ≤ k) ∧ Aside0 (Below w.heap.size w w'))
 case atStart => exact ⟨(0), rs_, H', ⟨Nat.le_refl _⟩, ⟨bw⟩⟩
 case round =>
  clear H'
  obtain ⟨x7_1, rfl, HA, HK1, HB⟩ := hrel
  cases gk with
  | zero => exact absurd HA.out (by simp [comptrollerlaw09_small.l0])
  | succ k1 =>
   have H := HA.out; clear HA
   simp only [comptrollerlaw09_small.l0] at H
   by_cases c2 : x7_1 < (l0.length : Int)
   ·rw [if_pos c2] at H
    have c2b0 : decide (x7_1 < (l0.length : Int)) = true := decide_eq_true c2
    clear c2
    by_cases c3 : 0 ≤ x7_1
    ·rw [if_pos c3] at H
     have c3b0 : decide (0 ≤ x7_1) = true := decide_eq_true c3
     clear c3
     by_cases c4 : x7_1 < (l0.length : Int)
     ·rw [if_pos c4] at H
      have c4b0 : decide (x7_1 < (l0.length : Int)) = true := decide_eq_true c4
      clear c4
      by_cases c5 : ((rd_T28 l0 x7_1).f1) > 4503599627370496
      ·rw [if_pos c5] at H
       have c5b0 : decide (4503599627370496 < ((rd_T28 l0 x7_1).f1)) = true := decide_eq_true c5
       clear c5
       obtain rfl := Option.some.inj H
       have p435 : 0 ≤ (x7_1 : Int) := of_decide_eq_true as_
       have q435 : x7_1 < (l0.length : Int) := of_decide_eq_true as_
       obtain ⟨ad435, e435, hx435_0, hx435_1, hx435_2, hx435_3, hx435_4, hx435_5⟩ := at_T28 HR0.out x7_1 p435 q435
       cases e435; replace hx435_0 := cb HB hx435_0; replace hx435_1 := cb HB hx435_1; replace hx435_2 := cb HB hx435_2; replace hx435_3 := cb HB hx435_3; replace hx435_4 := cb HB hx435_4; replace hx435_5 := cb HB hx435_5; replace p435 := eq_true p435; replace q435 := eq_true q435
       go_wp2_with (first | ((with_reducible refine gate_dst (N := 4) rfl ?_); refine box_event ?hg (N := 4) ?hd (cs := #[.string (⟨#[]⟩ : ByteArray), .string (⟨#[]⟩ : ByteArray), .string (⟨#[]⟩ : ByteArray), .string (⟨#[]⟩ : ByteArray), .int .i64 0, .int .i64 0]) (t := 28) ?hr ?_; (case hd => rfl); (case hg => rfl); (case hr => first | (go_simp; done) | (go_simp; rfl)); intro gb436 hg w6 hbox hb; have n0_ := Aside0.mk (below_step bw hb); have n1_ := Aside0.mk (hbox); have n2_ := Aside0.mk ((by rw [hg]; exact (below_size bw) : w.heap.size ≤ gb436)); have n3_ := Aside0.mk ((by rw [hg]; exact (below_size bw) : w.heap.size ≤ gb436)); clear HB; have HB := n0_; have BK436 := n1_; have GW436 := n2_; have GE436 := n3_; clear n0_ n1_ n2_ n3_; clear hb hbox hg; obtain ⟨hcz7_0, hcz7_1, hcz7_2, hcz7_3, hcz7_4, hcz7_5⟩ := bc6 BK436.out; have hfz7_0 := blk_frozen BK436.out 0; have hfz7_1 := blk_frozen BK436.out 1; have hfz7_2 := blk_frozen BK436.out 2; have hfz7_3 := blk_frozen BK436.out 3; have hfz7_4 := blk_frozen BK436.out 4; have hfz7_5 := blk_frozen BK436.out 5))
       go_ret
       exact ⟨re_, bx⟩
      ·rw [if_neg c5] at H
       have c5b0 : decide (4503599627370496 < ((rd_T28 l0 x7_1).f1)) = false := decide_eq_false c5
       clear c5
       by_cases c8 : ((rd_T28 l0 x7_1).f1) < (-4503599627370496)
       ·rw [if_pos c8] at H
        have c8b0 : decide (((rd_T28 l0 x7_1).f1) < (-4503599627370496)) = true := decide_eq_true c8
        clear c8
        obtain rfl := Option.some.inj H
        have p435 : 0 ≤ (x7_1 : Int) := of_decide_eq_true as_
        have q435 : x7_1 < (l0.length : Int) := of_decide_eq_true as_
        obtain ⟨ad435, e435, hx435_0, hx435_1, hx435_2, hx435_3, hx435_4, hx435_5⟩ := at_T28 HR0.out x7_1 p435 q435
        cases e435; replace hx435_0 := cb HB hx435_0; replace hx435_1 := cb HB hx435_1; replace hx435_2 := cb HB hx435_2; replace hx435_3 := cb HB hx435_3; replace hx435_4 := cb HB hx435_4; replace hx435_5 := cb HB hx435_5; replace p435 := eq_true p435; replace q435 := eq_true q435
        go_wp2_with (first | ((with_reducible refine gate_dst (N := 4) rfl ?_); refine box_event ?hg (N := 4) ?hd (cs := #[.string (⟨#[]⟩ : ByteArray), .string (⟨#[]⟩ : ByteArray), .string (⟨#[]⟩ : ByteArray), .string (⟨#[]⟩ : ByteArray), .int .i64 0, .int .i64 0]) (t := 28) ?hr ?_; (case hd => rfl); (case hg => rfl); (case hr => first | (go_simp; done) | (go_simp; rfl)); intro gb436 hg w9 hbox hb; have n0_ := Aside0.mk (below_step bw hb); have n1_ := Aside0.mk (hbox); have n2_ := Aside0.mk ((by rw [hg]; exact (below_size bw) : w.heap.size ≤ gb436)); have n3_ := Aside0.mk ((by rw [hg]; exact (below_size bw) : w.heap.size ≤ gb436)); clear HB; have HB := n0_; have BK436 := n1_; have GW436 := n2_; have GE436 := n3_; clear n0_ n1_ n2_ n3_; clear hb hbox hg; obtain ⟨hcz10_0, hcz10_1, hcz10_2, hcz10_3, hcz10_4, hcz10_5⟩ := bc6 BK436.out; have hfz10_0 := blk_frozen BK436.out 0; have hfz10_1 := blk_frozen BK436.out 1; have hfz10_2 := blk_frozen BK436.out 2; have hfz10_3 := blk_frozen BK436.out 3; have hfz10_4 := blk_frozen BK436.out 4; have hfz10_5 := blk_frozen BK436.out 5))
        go_ret
        exact ⟨re_, bx⟩
       ·rw [if_neg c8] at H
        have c8b0 : decide (((rd_T28 l0 x7_1).f1) < (-4503599627370496)) = false := decide_eq_false c8
        clear c8
        have H' := Aside0.mk H
        clear H
        have p435 : 0 ≤ (x7_1 : Int) := of_decide_eq_true as_
        have q435 : x7_1 < (l0.length : Int) := of_decide_eq_true as_
        obtain ⟨ad435, e435, hx435_0, hx435_1, hx435_2, hx435_3, hx435_4, hx435_5⟩ := at_T28 HR0.out x7_1 p435 q435
        cases e435; replace hx435_0 := cb HB hx435_0; replace hx435_1 := cb HB hx435_1; replace hx435_2 := cb HB hx435_2; replace hx435_3 := cb HB hx435_3; replace hx435_4 := cb HB hx435_4; replace hx435_5 := cb HB hx435_5; replace p435 := eq_true p435; replace q435 := eq_true q435
        go_wp2_with (first | ((with_reducible refine gate_dst (N := 4) rfl ?_); refine box_event ?hg (N := 4) ?hd (cs := #[.string (⟨#[]⟩ : ByteArray), .string (⟨#[]⟩ : ByteArray), .string (⟨#[]⟩ : ByteArray), .string (⟨#[]⟩ : ByteArray), .int .i64 0, .int .i64 0]) (t := 28) ?hr ?_; (case hd => rfl); (case hg => rfl); (case hr => first | (go_simp; done) | (go_simp; rfl)); intro gb436 hg w11 hbox hb; have n0_ := Aside0.mk (below_step bw hb); have n1_ := Aside0.mk (hbox); have n2_ := Aside0.mk ((by rw [hg]; exact (below_size bw) : w.heap.size ≤ gb436)); have n3_ := Aside0.mk ((by rw [hg]; exact (below_size bw) : w.heap.size ≤ gb436)); clear HB; have HB := n0_; have BK436 := n1_; have GW436 := n2_; have GE436 := n3_; clear n0_ n1_ n2_ n3_; clear hb hbox hg; obtain ⟨hcz12_0, hcz12_1, hcz12_2, hcz12_3, hcz12_4, hcz12_5⟩ := bc6 BK436.out; have hfz12_0 := blk_frozen BK436.out 0; have hfz12_1 := blk_frozen BK436.out 1; have hfz12_2 := blk_frozen BK436.out 2; have hfz12_3 := blk_frozen BK436.out 3; have hfz12_4 := blk_frozen BK436.out 4; have hfz12_5 := blk_frozen BK436.out 5))
        go_roundg k1
        case measure => have := HK1.out; omega
        case rel => exact ⟨(wrap64 (x7_1 + 1)), rs_, H', ⟨by have := HK1.out; omega⟩, ⟨bx⟩⟩
     ·rw [if_neg c4] at H
      exact absurd H (by simp)
    ·rw [if_neg c3] at H
     exact absurd H (by simp)
   ·rw [if_neg c2] at H
    have c2b0 : decide (x7_1 < (l0.length : Int)) = false := decide_eq_false c2
    clear c2
    obtain rfl := Option.some.inj H
    go_wp2; go_ret
    exact ⟨re_, bw⟩
/-! ### comptrollerlaw09_Theirs: function 10 -/
def comptrollerlaw09_Theirs.l0 : Nat → List (S55) → List (S28) → Int → Int → Option ((List (S55)))
 | 0, _, _, _, _ => none
 | k + 1, x3, x6, x7, x8 => if x8 < x7 then (if 0 ≤ x8 then (if x8 < (x6.length : Int) then (if x3.length < 1759218604441 then (comptrollerlaw09_Theirs.l0 k (x3 ++ [(⟨(⟨(rd_T28 x6 x8).f0.f0, (rd_T28 x6 x8).f0.f1, (rd_T28 x6 x8).f0.f2, (rd_T28 x6 x8).f0.f3, (rd_T28 x6 x8).f0.f4⟩ : S44), (rd_T28 x6 x8).f1⟩ : S55)]) x6 x7 (wrap64 (x8 + 1))) else (none)) else (none)) else (none)) else (some x3)
def comptrollerlaw09_Theirs.f (k : Nat) (l0 : List (S28)) : Option ((List (S55))) := comptrollerlaw09_Theirs.l0 k ([] : List (S55)) l0 (l0.length : Int) 0
theorem comptrollerlaw09_Theirs.mono_l : ∀ k, (∀ y0 y1 y2 y3, LeO (comptrollerlaw09_Theirs.l0 k y0 y1 y2 y3) (comptrollerlaw09_Theirs.l0 (k + 1) y0 y1 y2 y3))
 | 0 => fun _ _ _ _ r h => by simp [comptrollerlaw09_Theirs.l0] at h
 | k + 1 => by
  have ih0 := comptrollerlaw09_Theirs.mono_l k
  ·intro y0 y1 y2 y3
   unfold comptrollerlaw09_Theirs.l0
   with_reducible repeat' first | apply ih0 | refine LeO.refl _ | refine LeO.none _ | refine LeO.ite ?_ ?_ | refine LeO.bind ?_ (fun _ => ?_)
theorem comptrollerlaw09_Theirs.mono : ∀ a0 k, LeO (comptrollerlaw09_Theirs.f k a0) (comptrollerlaw09_Theirs.f (k + 1) a0) := by
 intro a0 k
 have ih0 := comptrollerlaw09_Theirs.mono_l k
 unfold comptrollerlaw09_Theirs.f
 with_reducible repeat' first | apply ih0 | refine LeO.refl _ | refine LeO.none _ | refine LeO.ite ?_ ?_ | refine LeO.bind ?_ (fun _ => ?_)
set_option maxHeartbeats 8000000 in
set_option maxRecDepth 100000 in
theorem comptrollerlaw09_Theirs.calls (k : Nat) (A0 : Option Addr) (c0 : Nat) (l0 : List (S28)) (r : List (S55)) (w : World) (hr0 : Kd.C k28 w A0 l0.length l0) (hc0 : l0.length ≤ c0) (h : comptrollerlaw09_Theirs.f k l0 = some r) :
  Calls Try.prog 10 #[.slice A0 l0.length c0] w fun e w' => ∃ v0_ : Value, e = .returned (v0_) ∧ Kd.R k55 55 w' w.heap.size (fun _ => True) v0_ r ∧ Below w.heap.size w w' := by
 have hu28 := Try.underlying28; have hu24 := Try.underlying24; have hu55 := Try.underlying55; have HR0 := Aside0.mk hr0; have HC0 := Aside0.mk hc0; clear hr0 hc0
 have HB := Aside0.mk (Below.refl w.heap.size w)
 have H : (comptrollerlaw09_Theirs.l0 k ([] : List (S55)) l0 (l0.length : Int) 0) = some r := h
 clear h
 have H' := Aside0.mk H
 clear H
 go_enter Try.func10, Try.ntmps10
 go_wp2
 go_loopg [3, 8] k (fun kq v3 v8 w' => ∃ (x3_1 : List (S55)) (x8_1 : Int), v8 = .int .i64 x8_1 ∧ Aside0 (comptrollerlaw09_Theirs.l0 kq x3_1 l0 (l0.length : Int) x8_1 = some r) ∧ Aside0 (kq ≤ k) ∧ Aside0 (Kd.R k55 55 w' w.heap.size (fun _ => True) v3 x3_1) ∧ Aside0 (Below w.heap.size w w'))
 case atStart => exact ⟨(([] : List (S55))), (0), rs_, H', ⟨Nat.le_refl _⟩, ⟨by first | exact Kd.R_nil _ _ _ _ _ | exact Kd.N_nil _ _ _ _ _ | exact Kd.V_nil _ _ _ _ _ | exact Kd.Q_nil _ _ _ _ _ | exact Kd.S_nil _ _ _ _ _⟩, ⟨bw⟩⟩
 case round =>
  clear H'
  try clear c1
  obtain ⟨x3_1, x8_1, rfl, HA, HK1, HO_3, HB⟩ := hrel
  cases gk with
  | zero => exact absurd HA.out (by simp [comptrollerlaw09_Theirs.l0])
  | succ k1 =>
   have H := HA.out; clear HA
   simp only [comptrollerlaw09_Theirs.l0] at H
   by_cases c2 : x8_1 < (l0.length : Int)
   ·rw [if_pos c2] at H
    have c2b0 : decide (x8_1 < (l0.length : Int)) = true := decide_eq_true c2
    clear c2
    by_cases c3 : 0 ≤ x8_1
    ·rw [if_pos c3] at H
     have c3b0 : decide (0 ≤ x8_1) = true := decide_eq_true c3
     clear c3
     by_cases c4 : x8_1 < (l0.length : Int)
     ·rw [if_pos c4] at H
      have c4b0 : decide (x8_1 < (l0.length : Int)) = true := decide_eq_true c4
      clear c4
      by_cases c5 : x3_1.length < 1759218604441
      ·rw [if_pos c5] at H; have LMc5 := Aside0.mk c5; clear c5
       obtain ⟨y253, hy253⟩ : ∃ y_ : List (S55), y_ = (x3_1 ++ [(⟨(⟨(rd_T28 l0 x8_1).f0.f0, (rd_T28 l0 x8_1).f0.f1, (rd_T28 l0 x8_1).f0.f2, (rd_T28 l0 x8_1).f0.f3, (rd_T28 l0 x8_1).f0.f4⟩ : S44), (rd_T28 l0 x8_1).f1⟩ : S55)]) := ⟨_, rfl⟩
       replace H : (comptrollerlaw09_Theirs.l0 k1 y253 l0 (l0.length : Int) (wrap64 (x8_1 + 1))) = some r := rh hy253 H
       have Ny253 := Aside0.mk hy253; clear hy253
       have H' := Aside0.mk H
       clear H
       have p251 : 0 ≤ (x8_1 : Int) := of_decide_eq_true as_
       have q251 : x8_1 < (l0.length : Int) := of_decide_eq_true as_
       obtain ⟨ad251, e251, hx251_0, hx251_1, hx251_2, hx251_3, hx251_4, hx251_5⟩ := at_T28 HR0.out x8_1 p251 q251
       cases e251; replace hx251_0 := cb HB hx251_0; replace hx251_1 := cb HB hx251_1; replace hx251_2 := cb HB hx251_2; replace hx251_3 := cb HB hx251_3; replace hx251_4 := cb HB hx251_4; replace hx251_5 := cb HB hx251_5; replace p251 := eq_true p251; replace q251 := eq_true q251
       go_wp2_with (first | ((with_reducible refine gate_dst (N := 5) rfl ?_); refine box_event ?hg (N := 5) ?hd (cs := #[.string (⟨#[]⟩ : ByteArray), .string (⟨#[]⟩ : ByteArray), .string (⟨#[]⟩ : ByteArray), .string (⟨#[]⟩ : ByteArray), .int .i64 0, .int .i64 0]) (t := 28) ?hr ?_; (case hd => rfl); (case hg => rfl); (case hr => first | (go_simp; done) | (go_simp; rfl)); intro gb252 hg w6 hbox hb; have n0_ := Aside0.mk (Kd.R_below (kr HO_3) hb); have n1_ := Aside0.mk (below_step bw hb); have n2_ := Aside0.mk (hbox); have n3_ := Aside0.mk ((by rw [hg]; exact (below_size bw) : w.heap.size ≤ gb252)); have n4_ := Aside0.mk ((by rw [hg]; exact (below_size bw) : w.heap.size ≤ gb252)); clear HO_3; clear HB; have HO_3 := n0_; have HB := n1_; have BK252 := n2_; have GW252 := n3_; have GE252 := n4_; clear n0_ n1_ n2_ n3_ n4_; clear hb hbox hg; obtain ⟨hcz7_0, hcz7_1, hcz7_2, hcz7_3, hcz7_4, hcz7_5⟩ := bc6 BK252.out; have hfz7_0 := blk_frozen BK252.out 0; have hfz7_1 := blk_frozen BK252.out 1; have hfz7_2 := blk_frozen BK252.out 2; have hfz7_3 := blk_frozen BK252.out 3; have hfz7_4 := blk_frozen BK252.out 4; have hfz7_5 := blk_frozen BK252.out 5) | ((with_reducible refine gate_builtin (b := .append) (xs := #[.tmp 12, .tmp 18]) rfl ?_); at_builtin; refine Kd.R_append k55 (w0 := w) w.heap.size rfl (.tmp 12) (.tmp 18) 29 55 (.agg #[(.string ⟨#[]⟩), (.string ⟨#[]⟩), (.string ⟨#[]⟩), (.string ⟨#[]⟩), (.int .i64 0), (.int .i64 0)]) 80 rfl Try.underlying29 info55 rfl (by decide) (by omega) u3 x3_1 (⟨(⟨(rd_T28 l0 x8_1).f0.f0, (rd_T28 l0 x8_1).f0.f1, (rd_T28 l0 x8_1).f0.f2, (rd_T28 l0 x8_1).f0.f3, (rd_T28 l0 x8_1).f0.f4⟩ : S44), (rd_T28 l0 x8_1).f1⟩ : S55) [.string ((rd_T28 l0 x8_1).f0.f0), .string ((rd_T28 l0 x8_1).f0.f1), .string ((rd_T28 l0 x8_1).f0.f2), .string ((rd_T28 l0 x8_1).f0.f3), .int .i64 ((rd_T28 l0 x8_1).f0.f4), .int .i64 ((rd_T28 l0 x8_1).f1)] (fun _ => True) (fun _ => False) rfl (by first | (go_simp; done) | (go_simp; rfl)) ?aP (fun _ hk => hk.elim) ?aF ?aO ?aB ?aS ?aL ?_; (case aP => exact k55_mkM _ _ _ (⟨(⟨(rd_T28 l0 x8_1).f0.f0, (rd_T28 l0 x8_1).f0.f1, (rd_T28 l0 x8_1).f0.f2, (rd_T28 l0 x8_1).f0.f3, (rd_T28 l0 x8_1).f0.f4⟩ : S44), (rd_T28 l0 x8_1).f1⟩ : S55)); (case aB => exact bx); (case aF => exact (fun _ _ => trivial)); (case aO => exact (by (with_reducible repeat (first | apply Kd.R_alloc | apply Kd.R_drewN | apply Kd.R_drew)); exact Kd.R_mono (rf28 gb252 (rd_T28 l0 x8_1) (Kd.R_types HO_3.out BK252.out (by decide)) (fun _ hk => hk.2)) (fun _ hk => trivial))); (case aS => exact (below_size bx)); (case aL => have := LMc5.out; omega); intro v254 w8 ho hb hg hat; rw [← Ny253.out] at ho; have n0_ := Aside0.mk (blk_grown (g := gb252) (o := .cells #[.string ((rd_T28 l0 x8_1).f0.f0), .string ((rd_T28 l0 x8_1).f0.f1), .string ((rd_T28 l0 x8_1).f0.f2), .string ((rd_T28 l0 x8_1).f0.f3), .int .i64 ((rd_T28 l0 x8_1).f0.f4), .int .i64 ((rd_T28 l0 x8_1).f1)] 28 (0, 0)) (bp28 BK252 (rd_T28 l0 x8_1)) hg (Kd.R_ne HO_3.out BK252.out (by decide))); have n1_ := Aside0.mk (hb); have n2_ := Aside0.mk (ho); clear BK252; clear HB; clear HO_3; have BK252 := n0_; have HB := n1_; have HO255 := n2_; clear n0_ n1_ n2_; clear ho hb hg hat))
       go_roundg k1
       case measure => have := HK1.out; omega
       case rel => exact ⟨(y253), (wrap64 (x8_1 + 1)), rs_, H', ⟨by have := HK1.out; omega⟩, ⟨kr HO255⟩, ⟨bx⟩⟩
      ·rw [if_neg c5] at H
       exact absurd H (by simp)
     ·rw [if_neg c4] at H
      exact absurd H (by simp)
    ·rw [if_neg c3] at H
     exact absurd H (by simp)
   ·rw [if_neg c2] at H
    have c2b0 : decide (x8_1 < (l0.length : Int)) = false := decide_eq_false c2
    clear c2
    obtain rfl := Option.some.inj H
    go_wp2; go_ret
    exact ⟨_, by first | rfl | (simp [errW_none, errW_some] <;> rfl) | (simp [*, errW_none, errW_some] <;> rfl), kr HO_3, bw⟩
/-! ### comptrollerlaw09_Ours: function 15 -/
def comptrollerlaw09_Ours.l0 : Nat → List (S28) → List (S55) → Int → Int → Option ((List (S28)))
 | 0, _, _, _, _ => none
 | k + 1, x3, x6, x7, x8 => if x8 < x7 then (if 0 ≤ x8 then (if x8 < (x6.length : Int) then (if x3.length < 1759218604441 then (comptrollerlaw09_Ours.l0 k (x3 ++ [(⟨(⟨(rd_T55 x6 x8).f0.f0, (rd_T55 x6 x8).f0.f1, (rd_T55 x6 x8).f0.f2, (rd_T55 x6 x8).f0.f3, (rd_T55 x6 x8).f0.f4⟩ : S24), (rd_T55 x6 x8).f1⟩ : S28)]) x6 x7 (wrap64 (x8 + 1))) else (none)) else (none)) else (none)) else (some x3)
def comptrollerlaw09_Ours.f (k : Nat) (l0 : List (S55)) : Option ((List (S28))) := comptrollerlaw09_Ours.l0 k ([] : List (S28)) l0 (l0.length : Int) 0
theorem comptrollerlaw09_Ours.mono_l : ∀ k, (∀ y0 y1 y2 y3, LeO (comptrollerlaw09_Ours.l0 k y0 y1 y2 y3) (comptrollerlaw09_Ours.l0 (k + 1) y0 y1 y2 y3))
 | 0 => fun _ _ _ _ r h => by simp [comptrollerlaw09_Ours.l0] at h
 | k + 1 => by
  have ih0 := comptrollerlaw09_Ours.mono_l k
  ·intro y0 y1 y2 y3
   unfold comptrollerlaw09_Ours.l0
   with_reducible repeat' first | apply ih0 | refine LeO.refl _ | refine LeO.none _ | refine LeO.ite ?_ ?_ | refine LeO.bind ?_ (fun _ => ?_)
theorem comptrollerlaw09_Ours.mono : ∀ a0 k, LeO (comptrollerlaw09_Ours.f k a0) (comptrollerlaw09_Ours.f (k + 1) a0) := by
 intro a0 k
 have ih0 := comptrollerlaw09_Ours.mono_l k
 unfold comptrollerlaw09_Ours.f
 with_reducible repeat' first | apply ih0 | refine LeO.refl _ | refine LeO.none _ | refine LeO.ite ?_ ?_ | refine LeO.bind ?_ (fun _ => ?_)
set_option maxHeartbeats 8000000 in
set_option maxRecDepth 100000 in
theorem comptrollerlaw09_Ours.calls (k : Nat) (A0 : Option Addr) (c0 : Nat) (l0 : List (S55)) (r : List (S28)) (w : World) (hr0 : Kd.C k55 w A0 l0.length l0) (hc0 : l0.length ≤ c0) (h : comptrollerlaw09_Ours.f k l0 = some r) :
  Calls Try.prog 15 #[.slice A0 l0.length c0] w fun e w' => ∃ v0_ : Value, e = .returned (v0_) ∧ Kd.R k28 28 w' w.heap.size (fun _ => True) v0_ r ∧ Below w.heap.size w w' := by
 have hu55 := Try.underlying55; have hu44 := Try.underlying44; have hu28 := Try.underlying28; have HR0 := Aside0.mk hr0; have HC0 := Aside0.mk hc0; clear hr0 hc0
 have HB := Aside0.mk (Below.refl w.heap.size w)
 have H : (comptrollerlaw09_Ours.l0 k ([] : List (S28)) l0 (l0.length : Int) 0) = some r := h
 clear h
 have H' := Aside0.mk H
 clear H
 go_enter Try.func15, Try.ntmps15
 go_wp2
 go_loopg [3, 8] k (fun kq v3 v8 w' => ∃ (x3_1 : List (S28)) (x8_1 : Int), v8 = .int .i64 x8_1 ∧ Aside0 (comptrollerlaw09_Ours.l0 kq x3_1 l0 (l0.length : Int) x8_1 = some r) ∧ Aside0 (kq ≤ k) ∧ Aside0 (Kd.R k28 28 w' w.heap.size (fun _ => True) v3 x3_1) ∧ Aside0 (Below w.heap.size w w'))
 case atStart => exact ⟨(([] : List (S28))), (0), rs_, H', ⟨Nat.le_refl _⟩, ⟨by first | exact Kd.R_nil _ _ _ _ _ | exact Kd.N_nil _ _ _ _ _ | exact Kd.V_nil _ _ _ _ _ | exact Kd.Q_nil _ _ _ _ _ | exact Kd.S_nil _ _ _ _ _⟩, ⟨bw⟩⟩
 case round =>
  clear H'
  try clear c1
  obtain ⟨x3_1, x8_1, rfl, HA, HK1, HO_3, HB⟩ := hrel
  cases gk with
  | zero => exact absurd HA.out (by simp [comptrollerlaw09_Ours.l0])
  | succ k1 =>
   have H := HA.out; clear HA
   simp only [comptrollerlaw09_Ours.l0] at H
   by_cases c2 : x8_1 < (l0.length : Int)
   ·rw [if_pos c2] at H
    have c2b0 : decide (x8_1 < (l0.length : Int)) = true := decide_eq_true c2
    clear c2
    by_cases c3 : 0 ≤ x8_1
    ·rw [if_pos c3] at H
     have c3b0 : decide (0 ≤ x8_1) = true := decide_eq_true c3
     clear c3
     by_cases c4 : x8_1 < (l0.length : Int)
     ·rw [if_pos c4] at H
      have c4b0 : decide (x8_1 < (l0.length : Int)) = true := decide_eq_true c4
      clear c4
      by_cases c5 : x3_1.length < 1759218604441
      ·rw [if_pos c5] at H; have LMc5 := Aside0.mk c5; clear c5
       obtain ⟨y358, hy358⟩ : ∃ y_ : List (S28), y_ = (x3_1 ++ [(⟨(⟨(rd_T55 l0 x8_1).f0.f0, (rd_T55 l0 x8_1).f0.f1, (rd_T55 l0 x8_1).f0.f2, (rd_T55 l0 x8_1).f0.f3, (rd_T55 l0 x8_1).f0.f4⟩ : S24), (rd_T55 l0 x8_1).f1⟩ : S28)]) := ⟨_, rfl⟩
       replace H : (comptrollerlaw09_Ours.l0 k1 y358 l0 (l0.length : Int) (wrap64 (x8_1 + 1))) = some r := rh hy358 H
       have Ny358 := Aside0.mk hy358; clear hy358
       have H' := Aside0.mk H
       clear H
       have p356 : 0 ≤ (x8_1 : Int) := of_decide_eq_true as_
       have q356 : x8_1 < (l0.length : Int) := of_decide_eq_true as_
       obtain ⟨ad356, e356, hx356_0, hx356_1, hx356_2, hx356_3, hx356_4, hx356_5⟩ := at_T55 HR0.out x8_1 p356 q356
       cases e356; replace hx356_0 := cb HB hx356_0; replace hx356_1 := cb HB hx356_1; replace hx356_2 := cb HB hx356_2; replace hx356_3 := cb HB hx356_3; replace hx356_4 := cb HB hx356_4; replace hx356_5 := cb HB hx356_5; replace p356 := eq_true p356; replace q356 := eq_true q356
       go_wp2_with (first | ((with_reducible refine gate_dst (N := 5) rfl ?_); refine box_event ?hg (N := 5) ?hd (cs := #[.string (⟨#[]⟩ : ByteArray), .string (⟨#[]⟩ : ByteArray), .string (⟨#[]⟩ : ByteArray), .string (⟨#[]⟩ : ByteArray), .int .i64 0, .int .i64 0]) (t := 55) ?hr ?_; (case hd => rfl); (case hg => rfl); (case hr => first | (go_simp; done) | (go_simp; rfl)); intro gb357 hg w6 hbox hb; have n0_ := Aside0.mk (Kd.R_below (kr HO_3) hb); have n1_ := Aside0.mk (below_step bw hb); have n2_ := Aside0.mk (hbox); have n3_ := Aside0.mk ((by rw [hg]; exact (below_size bw) : w.heap.size ≤ gb357)); have n4_ := Aside0.mk ((by rw [hg]; exact (below_size bw) : w.heap.size ≤ gb357)); clear HO_3; clear HB; have HO_3 := n0_; have HB := n1_; have BK357 := n2_; have GW357 := n3_; have GE357 := n4_; clear n0_ n1_ n2_ n3_ n4_; clear hb hbox hg; obtain ⟨hcz7_0, hcz7_1, hcz7_2, hcz7_3, hcz7_4, hcz7_5⟩ := bc6 BK357.out; have hfz7_0 := blk_frozen BK357.out 0; have hfz7_1 := blk_frozen BK357.out 1; have hfz7_2 := blk_frozen BK357.out 2; have hfz7_3 := blk_frozen BK357.out 3; have hfz7_4 := blk_frozen BK357.out 4; have hfz7_5 := blk_frozen BK357.out 5) | ((with_reducible refine gate_builtin (b := .append) (xs := #[.tmp 12, .tmp 18]) rfl ?_); at_builtin; refine Kd.R_append k28 (w0 := w) w.heap.size rfl (.tmp 12) (.tmp 18) 22 28 (.agg #[(.string ⟨#[]⟩), (.string ⟨#[]⟩), (.string ⟨#[]⟩), (.string ⟨#[]⟩), (.int .i64 0), (.int .i64 0)]) 80 rfl Try.underlying22 info28 rfl (by decide) (by omega) u3 x3_1 (⟨(⟨(rd_T55 l0 x8_1).f0.f0, (rd_T55 l0 x8_1).f0.f1, (rd_T55 l0 x8_1).f0.f2, (rd_T55 l0 x8_1).f0.f3, (rd_T55 l0 x8_1).f0.f4⟩ : S24), (rd_T55 l0 x8_1).f1⟩ : S28) [.string ((rd_T55 l0 x8_1).f0.f0), .string ((rd_T55 l0 x8_1).f0.f1), .string ((rd_T55 l0 x8_1).f0.f2), .string ((rd_T55 l0 x8_1).f0.f3), .int .i64 ((rd_T55 l0 x8_1).f0.f4), .int .i64 ((rd_T55 l0 x8_1).f1)] (fun _ => True) (fun _ => False) rfl (by first | (go_simp; done) | (go_simp; rfl)) ?aP (fun _ hk => hk.elim) ?aF ?aO ?aB ?aS ?aL ?_; (case aP => exact k28_mkM _ _ _ (⟨(⟨(rd_T55 l0 x8_1).f0.f0, (rd_T55 l0 x8_1).f0.f1, (rd_T55 l0 x8_1).f0.f2, (rd_T55 l0 x8_1).f0.f3, (rd_T55 l0 x8_1).f0.f4⟩ : S24), (rd_T55 l0 x8_1).f1⟩ : S28)); (case aB => exact bx); (case aF => exact (fun _ _ => trivial)); (case aO => exact (by (with_reducible repeat (first | apply Kd.R_alloc | apply Kd.R_drewN | apply Kd.R_drew)); exact Kd.R_mono (rf55 gb357 (rd_T55 l0 x8_1) (Kd.R_types HO_3.out BK357.out (by decide)) (fun _ hk => hk.2)) (fun _ hk => trivial))); (case aS => exact (below_size bx)); (case aL => have := LMc5.out; omega); intro v359 w8 ho hb hg hat; rw [← Ny358.out] at ho; have n0_ := Aside0.mk (blk_grown (g := gb357) (o := .cells #[.string ((rd_T55 l0 x8_1).f0.f0), .string ((rd_T55 l0 x8_1).f0.f1), .string ((rd_T55 l0 x8_1).f0.f2), .string ((rd_T55 l0 x8_1).f0.f3), .int .i64 ((rd_T55 l0 x8_1).f0.f4), .int .i64 ((rd_T55 l0 x8_1).f1)] 55 (0, 0)) (bp55 BK357 (rd_T55 l0 x8_1)) hg (Kd.R_ne HO_3.out BK357.out (by decide))); have n1_ := Aside0.mk (hb); have n2_ := Aside0.mk (ho); clear BK357; clear HB; clear HO_3; have BK357 := n0_; have HB := n1_; have HO360 := n2_; clear n0_ n1_ n2_; clear ho hb hg hat))
       go_roundg k1
       case measure => have := HK1.out; omega
       case rel => exact ⟨(y358), (wrap64 (x8_1 + 1)), rs_, H', ⟨by have := HK1.out; omega⟩, ⟨kr HO360⟩, ⟨bx⟩⟩
      ·rw [if_neg c5] at H
       exact absurd H (by simp)
     ·rw [if_neg c4] at H
      exact absurd H (by simp)
    ·rw [if_neg c3] at H
     exact absurd H (by simp)
   ·rw [if_neg c2] at H
    have c2b0 : decide (x8_1 < (l0.length : Int)) = false := decide_eq_false c2
    clear c2
    obtain rfl := Option.some.inj H
    go_wp2; go_ret
    exact ⟨_, by first | rfl | (simp [errW_none, errW_some] <;> rfl) | (simp [*, errW_none, errW_some] <;> rfl), kr HO_3, bw⟩
theorem eqA24 (d : Nat) (w : World) (x0 y0 : ByteArray) (x1 y1 : ByteArray) (x2 y2 : ByteArray) (x3 y3 : ByteArray) (x4 y4 : Int) :
  (Op.equalIn (d + 2) 24 (.agg #[.string x0, .string x1, .string x2, .string x3, .int .i64 x4]) (.agg #[.string y0, .string y1, .string y2, .string y3, .int .i64 y4])).run Try.prog w = .ok (x0.toList == y0.toList && (x1.toList == y1.toList && (x2.toList == y2.toList && (x3.toList == y3.toList && (x4 == y4))))) w := by
 refine eqA_of Try.underlying24 (by kernel_rfl) ?_
 refine eqf_cons (by rfl) (by go_simp; rfl) (by go_simp; rfl) (by go_simp) ?_
 refine eqf_cons (by rfl) (by go_simp; rfl) (by go_simp; rfl) (by go_simp) ?_
 refine eqf_cons (by rfl) (by go_simp; rfl) (by go_simp; rfl) (by go_simp) ?_
 refine eqf_cons (by rfl) (by go_simp; rfl) (by go_simp; rfl) (by go_simp) ?_
 exact eqf_last (by rfl) (by go_simp; rfl) (by go_simp; rfl) (by go_simp)
theorem eqA28 (d : Nat) (w : World) (x0 y0 : ByteArray) (x1 y1 : ByteArray) (x2 y2 : ByteArray) (x3 y3 : ByteArray) (x4 y4 : Int) (x5 y5 : Int) :
  (Op.equalIn (d + 3) 28 (.agg #[.string x0, .string x1, .string x2, .string x3, .int .i64 x4, .int .i64 x5]) (.agg #[.string y0, .string y1, .string y2, .string y3, .int .i64 y4, .int .i64 y5])).run Try.prog w = .ok ((x0.toList == y0.toList && (x1.toList == y1.toList && (x2.toList == y2.toList && (x3.toList == y3.toList && (x4 == y4))))) && (x5 == y5)) w := by
 refine eqA_of Try.underlying28 (by kernel_rfl) ?_
 refine eqf_cons (by rfl) (by go_simp) (by go_simp) (eqA24 (d + 0) w _ _ _ _ _ _ _ _ _ _) ?_
 exact eqf_last (by rfl) (by go_simp; rfl) (by go_simp; rfl) (by go_simp)
end Go.Proofs.Ytdckeflggcefbaa.Y
namespace Go.Proofs.Ytdckeflggcefbaa.Y
open Go.RowKit Go.Proofs.YtdckeflggcefbaaW.PrintWords Go.Proofs.YtdckeflggcefbaaW.PrintLast Go.Proofs.YtdckeflggcefbaaW.PrintMore
attribute [local go_sem] max2_int min2_int max_two min_two max_three min_three max_four min_four
set_option linter.unusedVariables false
set_option linter.unusedSimpArgs false

attribute [local go_sem high] eqA28
/-! ### comptrollerref09_Same: function 14 -/
def comptrollerref09_Same.l0 : Nat → List (S28) → List (S28) → Int → Option (Bool)
 | 0, _, _, _ => none
 | k + 1, x0, x1, x5 => if x5 < (x0.length : Int) then (if 0 ≤ x5 then (if x5 < (x1.length : Int) then (if ((!((((rd_T28 x0 x5).f0.f0).toList) == (((rd_T28 x1 x5).f0.f0).toList)) || (!((((rd_T28 x0 x5).f0.f1).toList) == (((rd_T28 x1 x5).f0.f1).toList)) || (!((((rd_T28 x0 x5).f0.f2).toList) == (((rd_T28 x1 x5).f0.f2).toList)) || (!((((rd_T28 x0 x5).f0.f3).toList) == (((rd_T28 x1 x5).f0.f3).toList)) || (!(((rd_T28 x0 x5).f0.f4) == ((rd_T28 x1 x5).f0.f4))))))) || (!(((rd_T28 x0 x5).f1) == ((rd_T28 x1 x5).f1)))) = true then (some false) else (comptrollerref09_Same.l0 k x0 x1 (wrap64 (x5 + 1)))) else (none)) else (none)) else (some true)
def comptrollerref09_Same.f (k : Nat) (l0 : List (S28)) (l1 : List (S28)) : Option (Bool) := if (l0.length : Int) = (l1.length : Int) then (comptrollerref09_Same.l0 k l0 l1 0) else (some false)
theorem comptrollerref09_Same.mono_l : ∀ k, (∀ y0 y1 y2, LeO (comptrollerref09_Same.l0 k y0 y1 y2) (comptrollerref09_Same.l0 (k + 1) y0 y1 y2))
 | 0 => fun _ _ _ r h => by simp [comptrollerref09_Same.l0] at h
 | k + 1 => by
  have ih0 := comptrollerref09_Same.mono_l k
  ·intro y0 y1 y2
   unfold comptrollerref09_Same.l0
   with_reducible repeat' first | apply ih0 | refine LeO.refl _ | refine LeO.none _ | refine LeO.ite ?_ ?_ | refine LeO.bind ?_ (fun _ => ?_)
theorem comptrollerref09_Same.mono : ∀ a0 a1 k, LeO (comptrollerref09_Same.f k a0 a1) (comptrollerref09_Same.f (k + 1) a0 a1) := by
 intro a0 a1 k
 have ih0 := comptrollerref09_Same.mono_l k
 unfold comptrollerref09_Same.f
 with_reducible repeat' first | apply ih0 | refine LeO.refl _ | refine LeO.none _ | refine LeO.ite ?_ ?_ | refine LeO.bind ?_ (fun _ => ?_)
set_option maxHeartbeats 8000000 in
set_option maxRecDepth 100000 in
theorem comptrollerref09_Same.calls (k : Nat) (A0 : Option Addr) (c0 : Nat) (l0 : List (S28)) (A1 : Option Addr) (c1 : Nat) (l1 : List (S28)) (r : Bool) (w : World) (hr0 : Kd.C k28 w A0 l0.length l0) (hc0 : l0.length ≤ c0) (hr1 : Kd.C k28 w A1 l1.length l1) (hc1 : l1.length ≤ c1) (h : comptrollerref09_Same.f k l0 l1 = some r) :
  Calls Try.prog 14 #[.slice A0 l0.length c0, .slice A1 l1.length c1] w fun e w' => e = .returned (.bool r) ∧ Drawn0 w w' := by
 have hu28 := Try.underlying28; have HR0 := Aside0.mk hr0; have HC0 := Aside0.mk hc0; clear hr0 hc0; have HR1 := Aside0.mk hr1; have HC1 := Aside0.mk hc1; clear hr1 hc1
 have H : (if (l0.length : Int) = (l1.length : Int) then (comptrollerref09_Same.l0 k l0 l1 0) else (some false)) = some r := h
 clear h
 by_cases c3 : (l0.length : Int) = (l1.length : Int)
 ·rw [if_pos c3] at H
  have c3b0 : ((l0.length : Int) == (l1.length : Int)) = true := beq_iff_eq.mpr c3
  have c3b1 : ((l0.length : Int) != (l1.length : Int)) = false := bne_eq_false_iff_eq.mpr c3
  have c3b2 : (l0.length == l1.length) = true := by first | simpa using c3 | (simp at c3 ⊢; omega)
  clear c3
  have H' := Aside0.mk H
  clear H
  go_enter Try.func14, Try.ntmps14
  go_wp2
  repeat (go_quiet (fail); try go_wp2)
  go_loopg [5] k (fun kq v5 w' => ∃ (x5_1 : Int), v5 = .int .i64 x5_1 ∧ Aside0 (comptrollerref09_Same.l0 kq l0 l1 x5_1 = some r) ∧ Aside0 (kq ≤ k) ∧ Drawn0 w w')
  case atStart => exact ⟨(0), rs_, H', ⟨Nat.le_refl _⟩, by repeat (first | exact Drawn0.refl _ | apply Drawn0.step)⟩
  case round =>
   clear H'
   (try clear c1); (try clear p2); (try clear c3); (try clear c3b0); (try clear c3b1); (try clear c3b2)
   obtain ⟨x5_1, rfl, HA, HK1, ⟨m1, rfl⟩⟩ := hrel
   cases gk with
   | zero => exact absurd HA.out (by simp [comptrollerref09_Same.l0])
   | succ k1 =>
    have H := HA.out; clear HA
    simp only [comptrollerref09_Same.l0] at H
    by_cases c4 : x5_1 < (l0.length : Int)
    ·rw [if_pos c4] at H
     have c4b0 : decide (x5_1 < (l0.length : Int)) = true := decide_eq_true c4
     clear c4
     by_cases c5 : 0 ≤ x5_1
     ·rw [if_pos c5] at H
      have c5b0 : decide (0 ≤ x5_1) = true := decide_eq_true c5
      clear c5
      by_cases c6 : x5_1 < (l1.length : Int)
      ·rw [if_pos c6] at H
       have c6b0 : decide (x5_1 < (l1.length : Int)) = true := decide_eq_true c6
       clear c6
       by_cases c7 : ((!((((rd_T28 l0 x5_1).f0.f0).toList) == (((rd_T28 l1 x5_1).f0.f0).toList)) || (!((((rd_T28 l0 x5_1).f0.f1).toList) == (((rd_T28 l1 x5_1).f0.f1).toList)) || (!((((rd_T28 l0 x5_1).f0.f2).toList) == (((rd_T28 l1 x5_1).f0.f2).toList)) || (!((((rd_T28 l0 x5_1).f0.f3).toList) == (((rd_T28 l1 x5_1).f0.f3).toList)) || (!(((rd_T28 l0 x5_1).f0.f4) == ((rd_T28 l1 x5_1).f0.f4))))))) || (!(((rd_T28 l0 x5_1).f1) == ((rd_T28 l1 x5_1).f1)))) = true
       ·rw [if_pos c7] at H
        have c7b0 : ((!((((rd_T28 l0 x5_1).f0.f0).toList) == (((rd_T28 l1 x5_1).f0.f0).toList)) || (!((((rd_T28 l0 x5_1).f0.f1).toList) == (((rd_T28 l1 x5_1).f0.f1).toList)) || (!((((rd_T28 l0 x5_1).f0.f2).toList) == (((rd_T28 l1 x5_1).f0.f2).toList)) || (!((((rd_T28 l0 x5_1).f0.f3).toList) == (((rd_T28 l1 x5_1).f0.f3).toList)) || (!(((rd_T28 l0 x5_1).f0.f4) == ((rd_T28 l1 x5_1).f0.f4))))))) || (!(((rd_T28 l0 x5_1).f1) == ((rd_T28 l1 x5_1).f1)))) = true := c7
        clear c7
        obtain rfl := Option.some.inj H
        have p354 : 0 ≤ (x5_1 : Int) := of_decide_eq_true as_
        have q354 : x5_1 < (l0.length : Int) := of_decide_eq_true as_
        obtain ⟨ad354, e354, hx354_0, hx354_1, hx354_2, hx354_3, hx354_4, hx354_5⟩ := at_T28 HR0.out x5_1 p354 q354
        cases e354; replace p354 := eq_true p354; replace q354 := eq_true q354
        have p355 : 0 ≤ (x5_1 : Int) := of_decide_eq_true as_
        have q355 : x5_1 < (l1.length : Int) := of_decide_eq_true as_
        obtain ⟨ad355, e355, hx355_0, hx355_1, hx355_2, hx355_3, hx355_4, hx355_5⟩ := at_T28 HR1.out x5_1 p355 q355
        cases e355; replace p355 := eq_true p355; replace q355 := eq_true q355; go_wp2
        repeat (go_quiet (fail); try go_wp2)
        go_ret
        exact ⟨by first | rfl | (simp; done) | (simp [*]; done), by repeat (first | exact Drawn0.refl _ | apply Drawn0.step)⟩
       ·rw [if_neg c7] at H
        have c7b0 : ((!((((rd_T28 l0 x5_1).f0.f0).toList) == (((rd_T28 l1 x5_1).f0.f0).toList)) || (!((((rd_T28 l0 x5_1).f0.f1).toList) == (((rd_T28 l1 x5_1).f0.f1).toList)) || (!((((rd_T28 l0 x5_1).f0.f2).toList) == (((rd_T28 l1 x5_1).f0.f2).toList)) || (!((((rd_T28 l0 x5_1).f0.f3).toList) == (((rd_T28 l1 x5_1).f0.f3).toList)) || (!(((rd_T28 l0 x5_1).f0.f4) == ((rd_T28 l1 x5_1).f0.f4))))))) || (!(((rd_T28 l0 x5_1).f1) == ((rd_T28 l1 x5_1).f1)))) = false := by simpa using c7
        clear c7
        have H' := Aside0.mk H
        clear H
        have p354 : 0 ≤ (x5_1 : Int) := of_decide_eq_true as_
        have q354 : x5_1 < (l0.length : Int) := of_decide_eq_true as_
        obtain ⟨ad354, e354, hx354_0, hx354_1, hx354_2, hx354_3, hx354_4, hx354_5⟩ := at_T28 HR0.out x5_1 p354 q354
        cases e354; replace p354 := eq_true p354; replace q354 := eq_true q354
        have p355 : 0 ≤ (x5_1 : Int) := of_decide_eq_true as_
        have q355 : x5_1 < (l1.length : Int) := of_decide_eq_true as_
        obtain ⟨ad355, e355, hx355_0, hx355_1, hx355_2, hx355_3, hx355_4, hx355_5⟩ := at_T28 HR1.out x5_1 p355 q355
        cases e355; replace p355 := eq_true p355; replace q355 := eq_true q355; go_wp2
        repeat (go_quiet (fail); try go_wp2)
        go_roundg k1
        case measure => have := HK1.out; omega
        case rel => exact ⟨(wrap64 (x5_1 + 1)), rs_, H', ⟨by have := HK1.out; omega⟩, by repeat (first | exact Drawn0.refl _ | apply Drawn0.step)⟩
      ·rw [if_neg c6] at H
       exact absurd H (by simp)
     ·rw [if_neg c5] at H
      exact absurd H (by simp)
    ·rw [if_neg c4] at H
     have c4b0 : decide (x5_1 < (l0.length : Int)) = false := decide_eq_false c4
     clear c4
     obtain rfl := Option.some.inj H
     go_wp2
     repeat (go_quiet (fail); try go_wp2)
     go_ret
     exact ⟨by first | rfl | (simp; done) | (simp [*]; done), by repeat (first | exact Drawn0.refl _ | apply Drawn0.step)⟩
 ·rw [if_neg c3] at H
  have c3b0 : ((l0.length : Int) == (l1.length : Int)) = false := beq_eq_false_iff_ne.mpr c3
  have c3b1 : ((l0.length : Int) != (l1.length : Int)) = true := bne_iff_ne.mpr c3
  have c3b2 : (l0.length == l1.length) = false := by first | simpa using c3 | (simp at c3 ⊢; omega)
  obtain rfl := Option.some.inj H
  go_enter Try.func14, Try.ntmps14
  go_wp2
  repeat (go_quiet (fail); try go_wp2)
  go_ret
  exact ⟨by first | rfl | (simp; done) | (simp [*]; done), by repeat (first | exact Drawn0.refl _ | apply Drawn0.step)⟩

end Go.Proofs.Ytdckeflggcefbaa.Y
namespace Go.Proofs.Ytdckeflggcefbaa.Y
open Go.RowKit Go.Proofs.YtdckeflggcefbaaW.PrintWords Go.Proofs.YtdckeflggcefbaaW.PrintLast Go.Proofs.YtdckeflggcefbaaW.PrintMore
attribute [local go_sem] max2_int min2_int max_two min_two max_three min_three max_four min_four
set_option linter.unusedVariables false
set_option linter.unusedSimpArgs false

/-! ### fact_Right: function 22 -/
def fact_Right.l0 : Nat → List (S55) → List (S55) → Int → Int → Option (Bool)
 | 0, _, _, _, _ => none
 | k + 1, x0, x5, x6, x7 => if x7 < x6 then (if 0 ≤ x7 then (if x7 < (x5.length : Int) then (if ((rd_T55 x5 x7).f1) = 0 then (some false) else (if x7 > 0 then (if 0 ≤ (wrap64 (x7 - 1)) then (if (wrap64 (x7 - 1)) < (x0.length : Int) then ((fact_Cmp.f k ((rd_T55 x0 (wrap64 (x7 - 1))).f0.f0) ((rd_T55 x0 (wrap64 (x7 - 1))).f0.f1) ((rd_T55 x0 (wrap64 (x7 - 1))).f0.f2) ((rd_T55 x0 (wrap64 (x7 - 1))).f0.f3) ((rd_T55 x0 (wrap64 (x7 - 1))).f0.f4) ((rd_T55 x5 x7).f0.f0) ((rd_T55 x5 x7).f0.f1) ((rd_T55 x5 x7).f0.f2) ((rd_T55 x5 x7).f0.f3) ((rd_T55 x5 x7).f0.f4)).bind fun t207 => (if t207 ≥ 0 then (some false) else (fact_Right.l0 k x0 x5 x6 (wrap64 (x7 + 1))))) else (none)) else (none)) else (fact_Right.l0 k x0 x5 x6 (wrap64 (x7 + 1))))) else (none)) else (none)) else (some (decide ((x0.length : Int) ≤ 2000)))
def fact_Right.f (k : Nat) (l0 : List (S55)) : Option (Bool) := fact_Right.l0 k l0 l0 (l0.length : Int) 0
theorem fact_Right.mono_l : ∀ k, (∀ y0 y1 y2 y3, LeO (fact_Right.l0 k y0 y1 y2 y3) (fact_Right.l0 (k + 1) y0 y1 y2 y3))
 | 0 => fun _ _ _ _ r h => by simp [fact_Right.l0] at h
 | k + 1 => by
  have ih0 := fact_Right.mono_l k
  ·intro y0 y1 y2 y3
   unfold fact_Right.l0
   with_reducible repeat' first | apply ih0 | apply fact_Cmp.mono | refine LeO.refl _ | refine LeO.none _ | refine LeO.ite ?_ ?_ | refine LeO.bind ?_ (fun _ => ?_)
theorem fact_Right.mono : ∀ a0 k, LeO (fact_Right.f k a0) (fact_Right.f (k + 1) a0) := by
 intro a0 k
 have ih0 := fact_Right.mono_l k
 unfold fact_Right.f
 with_reducible repeat' first | apply ih0 | apply fact_Cmp.mono | refine LeO.refl _ | refine LeO.none _ | refine LeO.ite ?_ ?_ | refine LeO.bind ?_ (fun _ => ?_)
def fact_Right.T4 : Bool × List (List Nat × List Nat) := (true, [([], []), ([0], [0]), ([1], [1]), ([2], [2]), ([3], [3]), ([4, 3], [3, 4]), ([5, 3, 3], [3, 5]), ([6], [6]), ([6], [6]), ([8, 6], [6, 8]), ([7, 9, 6], [6, 7, 9]), ([10, 6], [6, 10]), ([11, 6], [6, 11]), ([6], [6]), ([13, 6], [6, 13]), ([12, 14, 6, 6], [6, 12, 14]), ([15, 6], [6, 15]), ([6, 16, 3], [3, 6, 16]), ([3, 17], [3, 17])])
def fact_Right.B4 : List Nat := [0, 1, 3, 7, 15, 31, 63, 127, 127, 383, 1023, 2047, 4095, 127, 8319, 32767, 65535, 131071, 262143]
theorem fact_Right.tab4 : rtab .any (opsOf Try.f22 4) = fact_Right.T4 := by kernel_rfl
theorem fact_Right.bits4 : waitsOk fact_Right.T4.2 fact_Right.B4 = true := by kernel_rfl
set_option maxHeartbeats 8000000 in
set_option maxRecDepth 100000 in
theorem fact_Right.calls (k : Nat) (A0 : Option Addr) (c0 : Nat) (l0 : List (S55)) (r : Bool) (w : World) (hr0 : Kd.C k55 w A0 l0.length l0) (hc0 : l0.length ≤ c0) (h : fact_Right.f k l0 = some r) :
  Calls Try.prog 22 #[.slice A0 l0.length c0] w fun e w' => e = .returned (.bool r) ∧ Below w.heap.size w w' := by
 have hu55 := Try.underlying55; have hu44 := Try.underlying44; have HR0 := Aside0.mk hr0; have HC0 := Aside0.mk hc0; clear hr0 hc0
 have HB := Aside0.mk (Below.refl w.heap.size w)
 have H : (fact_Right.l0 k l0 l0 (l0.length : Int) 0) = some r := h
 clear h
 have H' := Aside0.mk H
 clear H
 go_enter Try.func22, Try.ntmps22
 go_wp2
 go_loopg [7] k (fun kq v7 w' => ∃ (x7_1 : Int), v7 = .int .i64 x7_1 ∧ Aside0 (fact_Right.l0 kq l0 l0 (l0.length : Int) x7_1 = some r) ∧ Aside0 (kq ≤ k) ∧ Aside0 (Below w.heap.size w w'))
 case atStart => exact ⟨(0), rs_, H', ⟨Nat.le_refl _⟩, ⟨bw⟩⟩
 case round =>
  clear H'
  obtain ⟨x7_1, rfl, HA, HK1, HB⟩ := hrel
  cases gk with
  | zero => exact absurd HA.out (by simp [fact_Right.l0])
  | succ k1 =>
   have H := HA.out; clear HA
   simp only [fact_Right.l0] at H
   by_cases c2 : x7_1 < (l0.length : Int)
   ·rw [if_pos c2] at H
    have c2b0 : decide (x7_1 < (l0.length : Int)) = true := decide_eq_true c2
    clear c2
    by_cases c3 : 0 ≤ x7_1
    ·rw [if_pos c3] at H
     have c3b0 : decide (0 ≤ x7_1) = true := decide_eq_true c3
     clear c3
     by_cases c4 : x7_1 < (l0.length : Int)
     ·rw [if_pos c4] at H
      have c4b0 : decide (x7_1 < (l0.length : Int)) = true := decide_eq_true c4
      clear c4
      by_cases c5 : ((rd_T55 l0 x7_1).f1) = 0
      ·rw [if_pos c5] at H
       have c5b0 : (((rd_T55 l0 x7_1).f1) == 0) = true := beq_iff_eq.mpr c5
       have c5b1 : (((rd_T55 l0 x7_1).f1) != 0) = false := bne_eq_false_iff_eq.mpr c5
       clear c5
       obtain rfl := Option.some.inj H
       have p204 : 0 ≤ (x7_1 : Int) := of_decide_eq_true as_
       have q204 : x7_1 < (l0.length : Int) := of_decide_eq_true as_
       obtain ⟨ad204, e204, hx204_0, hx204_1, hx204_2, hx204_3, hx204_4, hx204_5⟩ := at_T55 HR0.out x7_1 p204 q204
       cases e204; replace hx204_0 := cb HB hx204_0; replace hx204_1 := cb HB hx204_1; replace hx204_2 := cb HB hx204_2; replace hx204_3 := cb HB hx204_3; replace hx204_4 := cb HB hx204_4; replace hx204_5 := cb HB hx204_5; replace p204 := eq_true p204; replace q204 := eq_true q204
       try go_wp2_with (first | ((with_reducible refine gate_dst (N := 4) rfl ?_); refine box_event ?hg (N := 4) ?hd (cs := #[.string (⟨#[]⟩ : ByteArray), .string (⟨#[]⟩ : ByteArray), .string (⟨#[]⟩ : ByteArray), .string (⟨#[]⟩ : ByteArray), .int .i64 0, .int .i64 0]) (t := 55) ?hr ?_; (case hd => rfl); (case hg => rfl); (case hr => first | (go_simp; done) | (go_simp; rfl)); intro gb205 hg w6 hbox hb; have n0_ := Aside0.mk (below_step bw hb); have n1_ := Aside0.mk (hbox); have n2_ := Aside0.mk ((by rw [hg]; exact (below_size bw) : w.heap.size ≤ gb205)); have n3_ := Aside0.mk ((by rw [hg]; exact (below_size bw) : w.heap.size ≤ gb205)); clear HB; have HB := n0_; have BK205 := n1_; have GW205 := n2_; have GE205 := n3_; clear n0_ n1_ n2_ n3_; clear hb hbox hg; obtain ⟨hcz7_0, hcz7_1, hcz7_2, hcz7_3, hcz7_4, hcz7_5⟩ := bc6 BK205.out; have hfz7_0 := blk_frozen BK205.out 0; have hfz7_1 := blk_frozen BK205.out 1; have hfz7_2 := blk_frozen BK205.out 2; have hfz7_3 := blk_frozen BK205.out 3; have hfz7_4 := blk_frozen BK205.out 4; have hfz7_5 := blk_frozen BK205.out 5))
       have n0_ : Aside0 (((((((w6.setCell ⟨gb205, 0, none⟩ (.string ((rd_T55 l0 x7_1).f0.f0))).setCell ⟨gb205, 1, none⟩ (.string ((rd_T55 l0 x7_1).f0.f1))).setCell ⟨gb205, 2, none⟩ (.string ((rd_T55 l0 x7_1).f0.f2))).setCell ⟨gb205, 3, none⟩ (.string ((rd_T55 l0 x7_1).f0.f3))).setCell ⟨gb205, 4, none⟩ (.int .i64 ((rd_T55 l0 x7_1).f0.f4))).setCell ⟨gb205, 5, none⟩ (.int .i64 ((rd_T55 l0 x7_1).f1))).heap[gb205]? = some (.cells #[.string ((rd_T55 l0 x7_1).f0.f0), .string ((rd_T55 l0 x7_1).f0.f1), .string ((rd_T55 l0 x7_1).f0.f2), .string ((rd_T55 l0 x7_1).f0.f3), .int .i64 ((rd_T55 l0 x7_1).f0.f4), .int .i64 ((rd_T55 l0 x7_1).f1)] 55 (0, 0))) := ⟨by (with_reducible repeat (first | refine blk_drewN ?_ _ | refine blk_drew ?_ | refine blk_alloc ?_ _)); refine blk_put (cs := #[.string ((rd_T55 l0 x7_1).f0.f0), .string ((rd_T55 l0 x7_1).f0.f1), .string ((rd_T55 l0 x7_1).f0.f2), .string ((rd_T55 l0 x7_1).f0.f3), .int .i64 ((rd_T55 l0 x7_1).f0.f4), .int .i64 0]) ?_ 5 _ rfl; (with_reducible repeat (first | refine blk_drewN ?_ _ | refine blk_drew ?_ | refine blk_alloc ?_ _)); refine blk_put (cs := #[.string ((rd_T55 l0 x7_1).f0.f0), .string ((rd_T55 l0 x7_1).f0.f1), .string ((rd_T55 l0 x7_1).f0.f2), .string ((rd_T55 l0 x7_1).f0.f3), .int .i64 0, .int .i64 0]) ?_ 4 _ rfl; (with_reducible repeat (first | refine blk_drewN ?_ _ | refine blk_drew ?_ | refine blk_alloc ?_ _)); refine blk_put (cs := #[.string ((rd_T55 l0 x7_1).f0.f0), .string ((rd_T55 l0 x7_1).f0.f1), .string ((rd_T55 l0 x7_1).f0.f2), .string (⟨#[]⟩ : ByteArray), .int .i64 0, .int .i64 0]) ?_ 3 _ rfl; (with_reducible repeat (first | refine blk_drewN ?_ _ | refine blk_drew ?_ | refine blk_alloc ?_ _)); refine blk_put (cs := #[.string ((rd_T55 l0 x7_1).f0.f0), .string ((rd_T55 l0 x7_1).f0.f1), .string (⟨#[]⟩ : ByteArray), .string (⟨#[]⟩ : ByteArray), .int .i64 0, .int .i64 0]) ?_ 2 _ rfl; (with_reducible repeat (first | refine blk_drewN ?_ _ | refine blk_drew ?_ | refine blk_alloc ?_ _)); refine blk_put (cs := #[.string ((rd_T55 l0 x7_1).f0.f0), .string (⟨#[]⟩ : ByteArray), .string (⟨#[]⟩ : ByteArray), .string (⟨#[]⟩ : ByteArray), .int .i64 0, .int .i64 0]) ?_ 1 _ rfl; (with_reducible repeat (first | refine blk_drewN ?_ _ | refine blk_drew ?_ | refine blk_alloc ?_ _)); refine blk_put (cs := #[.string (⟨#[]⟩ : ByteArray), .string (⟨#[]⟩ : ByteArray), .string (⟨#[]⟩ : ByteArray), .string (⟨#[]⟩ : ByteArray), .int .i64 0, .int .i64 0]) ?_ 0 _ rfl; (with_reducible repeat (first | refine blk_drewN ?_ _ | refine blk_drew ?_ | refine blk_alloc ?_ _)); exact BK205.out⟩
       have n1_ : Aside0 (Below w.heap.size w ((((((w6.setCell ⟨gb205, 0, none⟩ (.string ((rd_T55 l0 x7_1).f0.f0))).setCell ⟨gb205, 1, none⟩ (.string ((rd_T55 l0 x7_1).f0.f1))).setCell ⟨gb205, 2, none⟩ (.string ((rd_T55 l0 x7_1).f0.f2))).setCell ⟨gb205, 3, none⟩ (.string ((rd_T55 l0 x7_1).f0.f3))).setCell ⟨gb205, 4, none⟩ (.int .i64 ((rd_T55 l0 x7_1).f0.f4))).setCell ⟨gb205, 5, none⟩ (.int .i64 ((rd_T55 l0 x7_1).f1)))) := ⟨bx⟩
       (try clear BK205)
       (try clear HB)
       generalize ((((((w6.setCell ⟨gb205, 0, none⟩ (.string ((rd_T55 l0 x7_1).f0.f0))).setCell ⟨gb205, 1, none⟩ (.string ((rd_T55 l0 x7_1).f0.f1))).setCell ⟨gb205, 2, none⟩ (.string ((rd_T55 l0 x7_1).f0.f2))).setCell ⟨gb205, 3, none⟩ (.string ((rd_T55 l0 x7_1).f0.f3))).setCell ⟨gb205, 4, none⟩ (.int .i64 ((rd_T55 l0 x7_1).f0.f4))).setCell ⟨gb205, 5, none⟩ (.int .i64 ((rd_T55 l0 x7_1).f1))) = w8 at n0_ n1_ ⊢
       have BK205 := n0_; have HB := n1_; clear n0_ n1_
       have n0_ := Aside0.mk (blk_drew BK205.out)
       have n1_ := Aside0.mk (below_drew1 HB.out)
       clear BK205 HB; have BK205 := n0_; have HB := n1_; clear n0_ n1_
       refine start_ (n := 19) (S := fun w' => w'.cell? ⟨gb205, 0, none⟩ = some (.string ((rd_T55 l0 x7_1).f0.f0)) ∧ w'.cell? ⟨gb205, 1, none⟩ = some (.string ((rd_T55 l0 x7_1).f0.f1)) ∧ w'.cell? ⟨gb205, 2, none⟩ = some (.string ((rd_T55 l0 x7_1).f0.f2)) ∧ w'.cell? ⟨gb205, 3, none⟩ = some (.string ((rd_T55 l0 x7_1).f0.f3)) ∧ w'.cell? ⟨gb205, 4, none⟩ = some (.int .i64 ((rd_T55 l0 x7_1).f0.f4)) ∧ w'.cell? ⟨gb205, 5, none⟩ = some (.int .i64 ((rd_T55 l0 x7_1).f1))) (ds := []) (fl 19 0) (by kernel_rfl) rfl rfl ⟨(blk_cell BK205.out 0).trans rfl, (blk_cell BK205.out 1).trans rfl, (blk_cell BK205.out 2).trans rfl, (blk_cell BK205.out 3).trans rfl, (blk_cell BK205.out 4).trans rfl, (blk_cell BK205.out 5).trans rfl⟩ (fun hHeld => ?_); refine with_tabW fact_Right.tab4 fact_Right.bits4 (fun HT_ HW_ => ?_)
       generalize w8.drew = w9 at BK205 HB hHeld ⊢
       refine pu 0 (some 12) (fl 19 1) HT_ ?_
       refine tu 1 (some 13) (fl 19 3) HT_ HW_ hHeld ?_
       refine pu 2 (some 14) (fl 19 7) HT_ ?_
       refine pu 3 (some 15) (fl 19 15) HT_ ?_
       refine pure_ (i := 4) (N := some 16) (v := undef) (a' := ?_) (fl 19 31) rfl rfl (any_of HT_.out (by kernel_rfl)) (fun _ _ _ h => h) (Or.inr ⟨by rfl, rfl⟩) ?_ ?_
       rotate_left
       ·simp only [Act.put, List.setIfInBounds_toArray, List.set_cons_zero, List.set_cons_succ, i64_w, i32_w]
        rfl
       refine pure_ (i := 5) (N := some 17) (v := undef) (a' := ?_) (fl 19 63) rfl rfl (any_of HT_.out (by kernel_rfl)) (fun _ _ _ h => h) (Or.inr ⟨by rfl, rfl⟩) ?_ ?_
       rotate_left
       ·simp only [Act.put, List.setIfInBounds_toArray, List.set_cons_zero, List.set_cons_succ, i64_w, i32_w]
        rfl
       refine pure_ (i := 6) (N := some 18) (v := undef) (a' := ?_) (fl 19 127) rfl rfl (any_of HT_.out (by kernel_rfl)) (fun _ _ _ h => h) (Or.inr ⟨by rfl, rfl⟩) ?_ ?_
       rotate_left
       ·simp only [Act.put, List.setIfInBounds_toArray, List.set_cons_zero, List.set_cons_succ, i64_w, i32_w]
        rfl
       refine pure_ (i := 7) (N := some 19) (v := undef) (a' := ?_) (fl 19 255) rfl rfl (any_of HT_.out (by kernel_rfl)) (fun _ _ _ h => h) (Or.inr ⟨by rfl, rfl⟩) ?_ ?_
       rotate_left
       ·simp only [Act.put, List.setIfInBounds_toArray, List.set_cons_zero, List.set_cons_succ, i64_w, i32_w]
        rfl
       refine pure_ (i := 8) (N := some 20) (v := undef) (a' := ?_) (fl 19 511) rfl rfl (any_of HT_.out (by kernel_rfl)) (fun _ _ _ h => h) (Or.inr ⟨by rfl, rfl⟩) ?_ ?_
       rotate_left
       ·simp only [Act.put, List.setIfInBounds_toArray, List.set_cons_zero, List.set_cons_succ, i64_w, i32_w]
        rfl
       refine pure_ (i := 9) (N := some 21) (v := undef) (a' := ?_) (fl 19 1023) rfl rfl (any_of HT_.out (by kernel_rfl)) (fun _ _ _ h => h) (Or.inr ⟨by rfl, rfl⟩) ?_ ?_
       rotate_left
       ·simp only [Act.put, List.setIfInBounds_toArray, List.set_cons_zero, List.set_cons_succ, i64_w, i32_w]
        rfl
       refine pure_ (i := 10) (N := some 22) (v := undef) (a' := ?_) (fl 19 2047) rfl rfl (any_of HT_.out (by kernel_rfl)) (fun _ _ _ h => h) (Or.inr ⟨by rfl, rfl⟩) ?_ ?_
       rotate_left
       ·simp only [Act.put, List.setIfInBounds_toArray, List.set_cons_zero, List.set_cons_succ, i64_w, i32_w]
        rfl
       refine pure_ (i := 11) (N := some 23) (v := undef) (a' := ?_) (fl 19 4095) rfl rfl (any_of HT_.out (by kernel_rfl)) (fun _ _ _ h => h) (Or.inr ⟨by rfl, rfl⟩) ?_ ?_
       rotate_left
       ·simp only [Act.put, List.setIfInBounds_toArray, List.set_cons_zero, List.set_cons_succ, i64_w, i32_w]
        rfl
       refine pure_ (i := 12) (N := some 24) (v := undef) (a' := ?_) (fl 19 8191) rfl rfl (any_of HT_.out (by kernel_rfl)) (fun _ _ _ h => h) (Or.inr ⟨by rfl, rfl⟩) ?_ ?_
       rotate_left
       ·simp only [Act.put, List.setIfInBounds_toArray, List.set_cons_zero, List.set_cons_succ, i64_w, i32_w]
        rfl
       refine pure_ (i := 13) (N := some 25) (v := undef) (a' := ?_) (fl 19 16383) rfl rfl (any_of HT_.out (by kernel_rfl)) (fun _ _ _ h => h) (Or.inr ⟨by rfl, rfl⟩) ?_ ?_
       rotate_left
       ·simp only [Act.put, List.setIfInBounds_toArray, List.set_cons_zero, List.set_cons_succ, i64_w, i32_w]
        rfl
       refine pure_ (i := 14) (N := some 26) (v := undef) (a' := ?_) (fl 19 32767) rfl rfl (any_of HT_.out (by kernel_rfl)) (fun _ _ _ h => h) (Or.inr ⟨by rfl, rfl⟩) ?_ ?_
       rotate_left
       ·simp only [Act.put, List.setIfInBounds_toArray, List.set_cons_zero, List.set_cons_succ, i64_w, i32_w]
        rfl
       refine pure_ (i := 15) (N := some 27) (v := undef) (a' := ?_) (fl 19 65535) rfl rfl (any_of HT_.out (by kernel_rfl)) (fun _ _ _ h => h) (Or.inr ⟨by rfl, rfl⟩) ?_ ?_
       rotate_left
       ·simp only [Act.put, List.setIfInBounds_toArray, List.set_cons_zero, List.set_cons_succ, i64_w, i32_w]
        rfl
       refine pure_ (i := 16) (N := some 28) (v := undef) (a' := ?_) (fl 19 131071) rfl rfl (any_of HT_.out (by kernel_rfl)) (fun _ _ _ h => h) (Or.inr ⟨by rfl, rfl⟩) ?_ ?_
       rotate_left
       ·simp only [Act.put, List.setIfInBounds_toArray, List.set_cons_zero, List.set_cons_succ, i64_w, i32_w]
        rfl
       refine pure_ (i := 17) (N := some 29) (v := undef) (a' := ?_) (fl 19 262143) rfl rfl (any_of HT_.out (by kernel_rfl)) (fun _ _ _ h => h) (Or.inr ⟨by rfl, rfl⟩) ?_ ?_
       rotate_left
       ·simp only [Act.put, List.setIfInBounds_toArray, List.set_cons_zero, List.set_cons_succ, i64_w, i32_w]
        rfl
       refine pu 18 (some 30) (fl 19 524287) HT_ ?_
       refine done_ (done_of HT_.out (by kernel_rfl)) ?_
       try go_wp2
       go_ret
       exact ⟨re_, bx⟩
      ·rw [if_neg c5] at H
       have c5b0 : (((rd_T55 l0 x7_1).f1) == 0) = false := beq_eq_false_iff_ne.mpr c5
       have c5b1 : (((rd_T55 l0 x7_1).f1) != 0) = true := bne_iff_ne.mpr c5
       by_cases c10 : x7_1 > 0
       ·rw [if_pos c10] at H
        have c10b0 : decide (0 < x7_1) = true := decide_eq_true c10
        clear c10
        obtain ⟨ji11, hji11⟩ : ∃ j_ : Int, (wrap64 (x7_1 - 1)) = j_ := ⟨_, rfl⟩
        replace H : (if 0 ≤ (ji11) then (if (ji11) < (l0.length : Int) then ((fact_Cmp.f k1 ((rd_T55 l0 (ji11)).f0.f0) ((rd_T55 l0 (ji11)).f0.f1) ((rd_T55 l0 (ji11)).f0.f2) ((rd_T55 l0 (ji11)).f0.f3) ((rd_T55 l0 (ji11)).f0.f4) ((rd_T55 l0 x7_1).f0.f0) ((rd_T55 l0 x7_1).f0.f1) ((rd_T55 l0 x7_1).f0.f2) ((rd_T55 l0 x7_1).f0.f3) ((rd_T55 l0 x7_1).f0.f4)).bind fun t207 => (if t207 ≥ 0 then (some false) else (fact_Right.l0 k1 l0 l0 (l0.length : Int) (wrap64 (x7_1 + 1))))) else (none)) else (none)) = some r := by first | (rw [hji11] at H; exact H) | (simp only [hji11] at H ⊢; exact H)
        have hji11w : (IntKind.i64.wrap (x7_1 - 1)) = ji11 := (i64_w _).trans hji11
        by_cases c12 : 0 ≤ (ji11)
        ·rw [if_pos c12] at H
         have c12b0 : decide (0 ≤ (ji11)) = true := decide_eq_true c12
         clear c12
         by_cases c13 : (ji11) < (l0.length : Int)
         ·rw [if_pos c13] at H
          have c13b0 : decide ((ji11) < (l0.length : Int)) = true := decide_eq_true c13
          clear c13
          replace H := Option.bind_eq_some_iff.mp H
          obtain ⟨t207, A140, H⟩ := H
          replace H : (if t207 ≥ 0 then (some false) else (fact_Right.l0 k1 l0 l0 (l0.length : Int) (wrap64 (x7_1 + 1)))) = some r := H
          have A14 := Aside0.mk A140; clear A140
          by_cases c15 : t207 ≥ 0
          ·rw [if_pos c15] at H
           have c15b0 : decide (0 ≤ t207) = true := decide_eq_true c15
           clear c15
           obtain rfl := Option.some.inj H
           have p204 : 0 ≤ (x7_1 : Int) := of_decide_eq_true as_
           have q204 : x7_1 < (l0.length : Int) := of_decide_eq_true as_
           obtain ⟨ad204, e204, hx204_0, hx204_1, hx204_2, hx204_3, hx204_4, hx204_5⟩ := at_T55 HR0.out x7_1 p204 q204
           cases e204; replace hx204_0 := cb HB hx204_0; replace hx204_1 := cb HB hx204_1; replace hx204_2 := cb HB hx204_2; replace hx204_3 := cb HB hx204_3; replace hx204_4 := cb HB hx204_4; replace hx204_5 := cb HB hx204_5; replace p204 := eq_true p204; replace q204 := eq_true q204
           try go_wp2_with (first | ((with_reducible refine gate_dst (N := 4) rfl ?_); refine box_event ?hg (N := 4) ?hd (cs := #[.string (⟨#[]⟩ : ByteArray), .string (⟨#[]⟩ : ByteArray), .string (⟨#[]⟩ : ByteArray), .string (⟨#[]⟩ : ByteArray), .int .i64 0, .int .i64 0]) (t := 55) ?hr ?_; (case hd => rfl); (case hg => rfl); (case hr => first | (go_simp; done) | (go_simp; rfl)); intro gb205 hg w16 hbox hb; have n0_ := Aside0.mk (below_step bw hb); have n1_ := Aside0.mk (hbox); have n2_ := Aside0.mk ((by rw [hg]; exact (below_size bw) : w.heap.size ≤ gb205)); have n3_ := Aside0.mk ((by rw [hg]; exact (below_size bw) : w.heap.size ≤ gb205)); clear HB; have HB := n0_; have BK205 := n1_; have GW205 := n2_; have GE205 := n3_; clear n0_ n1_ n2_ n3_; clear hb hbox hg; obtain ⟨hcz17_0, hcz17_1, hcz17_2, hcz17_3, hcz17_4, hcz17_5⟩ := bc6 BK205.out; have hfz17_0 := blk_frozen BK205.out 0; have hfz17_1 := blk_frozen BK205.out 1; have hfz17_2 := blk_frozen BK205.out 2; have hfz17_3 := blk_frozen BK205.out 3; have hfz17_4 := blk_frozen BK205.out 4; have hfz17_5 := blk_frozen BK205.out 5))
           have n0_ : Aside0 (((((((w16.setCell ⟨gb205, 0, none⟩ (.string ((rd_T55 l0 x7_1).f0.f0))).setCell ⟨gb205, 1, none⟩ (.string ((rd_T55 l0 x7_1).f0.f1))).setCell ⟨gb205, 2, none⟩ (.string ((rd_T55 l0 x7_1).f0.f2))).setCell ⟨gb205, 3, none⟩ (.string ((rd_T55 l0 x7_1).f0.f3))).setCell ⟨gb205, 4, none⟩ (.int .i64 ((rd_T55 l0 x7_1).f0.f4))).setCell ⟨gb205, 5, none⟩ (.int .i64 ((rd_T55 l0 x7_1).f1))).heap[gb205]? = some (.cells #[.string ((rd_T55 l0 x7_1).f0.f0), .string ((rd_T55 l0 x7_1).f0.f1), .string ((rd_T55 l0 x7_1).f0.f2), .string ((rd_T55 l0 x7_1).f0.f3), .int .i64 ((rd_T55 l0 x7_1).f0.f4), .int .i64 ((rd_T55 l0 x7_1).f1)] 55 (0, 0))) := ⟨by (with_reducible repeat (first | refine blk_drewN ?_ _ | refine blk_drew ?_ | refine blk_alloc ?_ _)); refine blk_put (cs := #[.string ((rd_T55 l0 x7_1).f0.f0), .string ((rd_T55 l0 x7_1).f0.f1), .string ((rd_T55 l0 x7_1).f0.f2), .string ((rd_T55 l0 x7_1).f0.f3), .int .i64 ((rd_T55 l0 x7_1).f0.f4), .int .i64 0]) ?_ 5 _ rfl; (with_reducible repeat (first | refine blk_drewN ?_ _ | refine blk_drew ?_ | refine blk_alloc ?_ _)); refine blk_put (cs := #[.string ((rd_T55 l0 x7_1).f0.f0), .string ((rd_T55 l0 x7_1).f0.f1), .string ((rd_T55 l0 x7_1).f0.f2), .string ((rd_T55 l0 x7_1).f0.f3), .int .i64 0, .int .i64 0]) ?_ 4 _ rfl; (with_reducible repeat (first | refine blk_drewN ?_ _ | refine blk_drew ?_ | refine blk_alloc ?_ _)); refine blk_put (cs := #[.string ((rd_T55 l0 x7_1).f0.f0), .string ((rd_T55 l0 x7_1).f0.f1), .string ((rd_T55 l0 x7_1).f0.f2), .string (⟨#[]⟩ : ByteArray), .int .i64 0, .int .i64 0]) ?_ 3 _ rfl; (with_reducible repeat (first | refine blk_drewN ?_ _ | refine blk_drew ?_ | refine blk_alloc ?_ _)); refine blk_put (cs := #[.string ((rd_T55 l0 x7_1).f0.f0), .string ((rd_T55 l0 x7_1).f0.f1), .string (⟨#[]⟩ : ByteArray), .string (⟨#[]⟩ : ByteArray), .int .i64 0, .int .i64 0]) ?_ 2 _ rfl; (with_reducible repeat (first | refine blk_drewN ?_ _ | refine blk_drew ?_ | refine blk_alloc ?_ _)); refine blk_put (cs := #[.string ((rd_T55 l0 x7_1).f0.f0), .string (⟨#[]⟩ : ByteArray), .string (⟨#[]⟩ : ByteArray), .string (⟨#[]⟩ : ByteArray), .int .i64 0, .int .i64 0]) ?_ 1 _ rfl; (with_reducible repeat (first | refine blk_drewN ?_ _ | refine blk_drew ?_ | refine blk_alloc ?_ _)); refine blk_put (cs := #[.string (⟨#[]⟩ : ByteArray), .string (⟨#[]⟩ : ByteArray), .string (⟨#[]⟩ : ByteArray), .string (⟨#[]⟩ : ByteArray), .int .i64 0, .int .i64 0]) ?_ 0 _ rfl; (with_reducible repeat (first | refine blk_drewN ?_ _ | refine blk_drew ?_ | refine blk_alloc ?_ _)); exact BK205.out⟩
           have n1_ : Aside0 (Below w.heap.size w ((((((w16.setCell ⟨gb205, 0, none⟩ (.string ((rd_T55 l0 x7_1).f0.f0))).setCell ⟨gb205, 1, none⟩ (.string ((rd_T55 l0 x7_1).f0.f1))).setCell ⟨gb205, 2, none⟩ (.string ((rd_T55 l0 x7_1).f0.f2))).setCell ⟨gb205, 3, none⟩ (.string ((rd_T55 l0 x7_1).f0.f3))).setCell ⟨gb205, 4, none⟩ (.int .i64 ((rd_T55 l0 x7_1).f0.f4))).setCell ⟨gb205, 5, none⟩ (.int .i64 ((rd_T55 l0 x7_1).f1)))) := ⟨bx⟩
           (try clear BK205)
           (try clear HB)
           generalize ((((((w16.setCell ⟨gb205, 0, none⟩ (.string ((rd_T55 l0 x7_1).f0.f0))).setCell ⟨gb205, 1, none⟩ (.string ((rd_T55 l0 x7_1).f0.f1))).setCell ⟨gb205, 2, none⟩ (.string ((rd_T55 l0 x7_1).f0.f2))).setCell ⟨gb205, 3, none⟩ (.string ((rd_T55 l0 x7_1).f0.f3))).setCell ⟨gb205, 4, none⟩ (.int .i64 ((rd_T55 l0 x7_1).f0.f4))).setCell ⟨gb205, 5, none⟩ (.int .i64 ((rd_T55 l0 x7_1).f1))) = w18 at n0_ n1_ ⊢
           have BK205 := n0_; have HB := n1_; clear n0_ n1_
           have n0_ := Aside0.mk (blk_drew BK205.out)
           have n1_ := Aside0.mk (below_drew1 HB.out)
           clear BK205 HB; have BK205 := n0_; have HB := n1_; clear n0_ n1_
           have p206 : 0 ≤ ((ji11) : Int) := of_decide_eq_true as_
           have q206 : (ji11) < (l0.length : Int) := of_decide_eq_true as_
           obtain ⟨ad206, e206, hx206_0, hx206_1, hx206_2, hx206_3, hx206_4, hx206_5⟩ := at_T55 HR0.out (ji11) p206 q206
           have hw206_5 := hx206_5; have hw206_4 := hx206_4; have hw206_3 := hx206_3; have hw206_2 := hx206_2; have hw206_1 := hx206_1; have hw206_0 := hx206_0
           obtain rfl : ad204 = ad206 := (by injection e206)
           replace hx206_0 := cb HB hx206_0; replace hx206_1 := cb HB hx206_1; replace hx206_2 := cb HB hx206_2; replace hx206_3 := cb HB hx206_3; replace hx206_4 := cb HB hx206_4; replace hx206_5 := cb HB hx206_5; replace p206 := eq_true p206; replace q206 := eq_true q206
           refine start_ (n := 19) (S := fun w' => w'.cell? ⟨gb205, 0, none⟩ = some (.string ((rd_T55 l0 x7_1).f0.f0)) ∧ w'.cell? ⟨gb205, 1, none⟩ = some (.string ((rd_T55 l0 x7_1).f0.f1)) ∧ w'.cell? ⟨gb205, 2, none⟩ = some (.string ((rd_T55 l0 x7_1).f0.f2)) ∧ w'.cell? ⟨gb205, 3, none⟩ = some (.string ((rd_T55 l0 x7_1).f0.f3)) ∧ w'.cell? ⟨gb205, 4, none⟩ = some (.int .i64 ((rd_T55 l0 x7_1).f0.f4)) ∧ w'.cell? ⟨gb205, 5, none⟩ = some (.int .i64 ((rd_T55 l0 x7_1).f1)) ∧ w'.cell? (ad204.add (((ji11)).toNat * 6)) = some (.string ((rd_T55 l0 (ji11)).f0.f0)) ∧ w'.cell? ⟨(ad204.add (((ji11)).toNat * 6)).block, (ad204.add (((ji11)).toNat * 6)).off + 1, none⟩ = some (.string ((rd_T55 l0 (ji11)).f0.f1)) ∧ w'.cell? ⟨(ad204.add (((ji11)).toNat * 6)).block, (ad204.add (((ji11)).toNat * 6)).off + 2, none⟩ = some (.string ((rd_T55 l0 (ji11)).f0.f2)) ∧ w'.cell? ⟨(ad204.add (((ji11)).toNat * 6)).block, (ad204.add (((ji11)).toNat * 6)).off + 3, none⟩ = some (.string ((rd_T55 l0 (ji11)).f0.f3)) ∧ w'.cell? ⟨(ad204.add (((ji11)).toNat * 6)).block, (ad204.add (((ji11)).toNat * 6)).off + 4, none⟩ = some (.int .i64 ((rd_T55 l0 (ji11)).f0.f4)) ∧ w'.cell? ⟨(ad204.add (((ji11)).toNat * 6)).block, (ad204.add (((ji11)).toNat * 6)).off + 5, none⟩ = some (.int .i64 ((rd_T55 l0 (ji11)).f1))) (ds := []) (fl 19 0) (by kernel_rfl) rfl rfl ⟨(blk_cell BK205.out 0).trans rfl, (blk_cell BK205.out 1).trans rfl, (blk_cell BK205.out 2).trans rfl, (blk_cell BK205.out 3).trans rfl, (blk_cell BK205.out 4).trans rfl, (blk_cell BK205.out 5).trans rfl, (cb HB hw206_0), (cb HB hw206_1), (cb HB hw206_2), (cb HB hw206_3), (cb HB hw206_4), (cb HB hw206_5)⟩ (fun hHeld => ?_); refine with_tabW fact_Right.tab4 fact_Right.bits4 (fun HT_ HW_ => ?_)
           generalize w18.drew = w19 at BK205 HB hx206_0 hx206_1 hx206_2 hx206_3 hx206_4 hx206_5 hHeld ⊢
           refine pu 0 (some 12) (fl 19 1) HT_ ?_
           refine tu 1 (some 13) (fl 19 3) HT_ HW_ hHeld ?_
           refine pu 2 (some 14) (fl 19 7) HT_ ?_
           refine pu 3 (some 15) (fl 19 15) HT_ ?_
           refine pu 4 (some 16) (fl 19 31) HT_ ?_
           refine pu 5 (some 17) (fl 19 63) HT_ ?_
           refine pu 6 (some 18) (fl 19 127) HT_ ?_
           refine pu 7 (some 19) (fl 19 255) HT_ ?_
           refine pu 8 (some 20) (fl 19 511) HT_ ?_
           refine pu 9 (some 21) (fl 19 1023) HT_ ?_
           refine pu 10 (some 22) (fl 19 2047) HT_ ?_
           refine pu 11 (some 23) (fl 19 4095) HT_ ?_
           refine pu 13 (some 25) (fl 19 12287) HT_ ?_
           refine tu 12 (some 24) (fl 19 16383) HT_ HW_ hHeld ?_
           refine tu 14 (some 26) (fl 19 32767) HT_ HW_ hHeld ?_
           refine one_ (i := 15) (N := some 27) (fl 19 65535) rfl rfl (one_of HT_.out (by kernel_rfl)) (by decide) (fun K hK => ?_)
           refine goes_ Try.func23 (by kernel_rfl) rfl #[.agg #[.string ((rd_T55 l0 (ji11)).f0.f0), .string ((rd_T55 l0 (ji11)).f0.f1), .string ((rd_T55 l0 (ji11)).f0.f2), .string ((rd_T55 l0 (ji11)).f0.f3), .int .i64 ((rd_T55 l0 (ji11)).f0.f4)], .agg #[.string ((rd_T55 l0 x7_1).f0.f0), .string ((rd_T55 l0 x7_1).f0.f1), .string ((rd_T55 l0 x7_1).f0.f2), .string ((rd_T55 l0 x7_1).f0.f3), .int .i64 ((rd_T55 l0 x7_1).f0.f4)]] (by rfl) rfl rfl (by (try simp only [List.map_toArray, List.map_cons, List.map_nil]); first | done | (simp only [hji11]; rfl) | rfl | (simp only [List.length_drop, List.length_take]; rfl)) ?_
           with_reducible refine (fact_Cmp.calls k1 ((rd_T55 l0 (ji11)).f0.f0) ((rd_T55 l0 (ji11)).f0.f1) ((rd_T55 l0 (ji11)).f0.f2) ((rd_T55 l0 (ji11)).f0.f3) ((rd_T55 l0 (ji11)).f0.f4) ((rd_T55 l0 x7_1).f0.f0) ((rd_T55 l0 x7_1).f0.f1) ((rd_T55 l0 x7_1).f0.f2) ((rd_T55 l0 x7_1).f0.f3) ((rd_T55 l0 x7_1).f0.f4) t207 _ A14.out).mono ?_
           rintro e w20 ⟨rfl, hb⟩
           refine ⟨_, rfl, ?_⟩
           have n0_ := Aside0.mk (blk_below (g := gb205) (o := .cells #[.string ((rd_T55 l0 x7_1).f0.f0), .string ((rd_T55 l0 x7_1).f0.f1), .string ((rd_T55 l0 x7_1).f0.f2), .string ((rd_T55 l0 x7_1).f0.f3), .int .i64 ((rd_T55 l0 x7_1).f0.f4), .int .i64 ((rd_T55 l0 x7_1).f1)] 55 (0, 0)) (by (with_reducible repeat (first | refine blk_drewN ?_ _ | refine blk_drew ?_ | refine blk_alloc ?_ _)); exact BK205.out) hb)
           have n1_ := Aside0.mk (below_step bx hb)
           clear BK205 HB; have BK205 := n0_; have HB := n1_; clear n0_ n1_
           (try clear hb)
           (try clear hb2)
           (try clear hk)
           (try clear hi)
           refine hK.out _ _ ⟨(blk_cell BK205.out 0).trans rfl, (blk_cell BK205.out 1).trans rfl, (blk_cell BK205.out 2).trans rfl, (blk_cell BK205.out 3).trans rfl, (blk_cell BK205.out 4).trans rfl, (blk_cell BK205.out 5).trans rfl, (cb HB hw206_0), (cb HB hw206_1), (cb HB hw206_2), (cb HB hw206_3), (cb HB hw206_4), (cb HB hw206_5)⟩ (fun hHeld => ?_)
           clear hK K
           refine norm_ (a' := ?_) ?_ ?_
           rotate_left
           ·show Act.put _ (some 27) _ = _
            simp only [Act.put, List.setIfInBounds_toArray, List.set_cons_zero, List.set_cons_succ, i64_w, i32_w]
            rfl
           refine pu 16 (some 28) (fl 19 131071) HT_ ?_
           refine pu 17 (some 29) (fl 19 262143) HT_ ?_
           refine pu 18 (some 30) (fl 19 524287) HT_ ?_
           refine done_ (done_of HT_.out (by kernel_rfl)) ?_
           try go_wp2
           go_ret
           exact ⟨by first | rfl | (simp [errW_none, errW_some] <;> rfl) | (simp only [← hji11]; first | rfl | (simp [errW_none, errW_some] <;> rfl)) | (simp [*, errW_none, errW_some] <;> rfl), bx⟩
          ·rw [if_neg c15] at H
           have c15b0 : decide (0 ≤ t207) = false := decide_eq_false c15
           clear c15
           have H' := Aside0.mk H
           clear H
           have p204 : 0 ≤ (x7_1 : Int) := of_decide_eq_true as_
           have q204 : x7_1 < (l0.length : Int) := of_decide_eq_true as_
           obtain ⟨ad204, e204, hx204_0, hx204_1, hx204_2, hx204_3, hx204_4, hx204_5⟩ := at_T55 HR0.out x7_1 p204 q204
           cases e204; replace hx204_0 := cb HB hx204_0; replace hx204_1 := cb HB hx204_1; replace hx204_2 := cb HB hx204_2; replace hx204_3 := cb HB hx204_3; replace hx204_4 := cb HB hx204_4; replace hx204_5 := cb HB hx204_5; replace p204 := eq_true p204; replace q204 := eq_true q204
           try go_wp2_with (first | ((with_reducible refine gate_dst (N := 4) rfl ?_); refine box_event ?hg (N := 4) ?hd (cs := #[.string (⟨#[]⟩ : ByteArray), .string (⟨#[]⟩ : ByteArray), .string (⟨#[]⟩ : ByteArray), .string (⟨#[]⟩ : ByteArray), .int .i64 0, .int .i64 0]) (t := 55) ?hr ?_; (case hd => rfl); (case hg => rfl); (case hr => first | (go_simp; done) | (go_simp; rfl)); intro gb205 hg w21 hbox hb; have n0_ := Aside0.mk (below_step bw hb); have n1_ := Aside0.mk (hbox); have n2_ := Aside0.mk ((by rw [hg]; exact (below_size bw) : w.heap.size ≤ gb205)); have n3_ := Aside0.mk ((by rw [hg]; exact (below_size bw) : w.heap.size ≤ gb205)); clear HB; have HB := n0_; have BK205 := n1_; have GW205 := n2_; have GE205 := n3_; clear n0_ n1_ n2_ n3_; clear hb hbox hg; obtain ⟨hcz22_0, hcz22_1, hcz22_2, hcz22_3, hcz22_4, hcz22_5⟩ := bc6 BK205.out; have hfz22_0 := blk_frozen BK205.out 0; have hfz22_1 := blk_frozen BK205.out 1; have hfz22_2 := blk_frozen BK205.out 2; have hfz22_3 := blk_frozen BK205.out 3; have hfz22_4 := blk_frozen BK205.out 4; have hfz22_5 := blk_frozen BK205.out 5))
           have n0_ : Aside0 (((((((w21.setCell ⟨gb205, 0, none⟩ (.string ((rd_T55 l0 x7_1).f0.f0))).setCell ⟨gb205, 1, none⟩ (.string ((rd_T55 l0 x7_1).f0.f1))).setCell ⟨gb205, 2, none⟩ (.string ((rd_T55 l0 x7_1).f0.f2))).setCell ⟨gb205, 3, none⟩ (.string ((rd_T55 l0 x7_1).f0.f3))).setCell ⟨gb205, 4, none⟩ (.int .i64 ((rd_T55 l0 x7_1).f0.f4))).setCell ⟨gb205, 5, none⟩ (.int .i64 ((rd_T55 l0 x7_1).f1))).heap[gb205]? = some (.cells #[.string ((rd_T55 l0 x7_1).f0.f0), .string ((rd_T55 l0 x7_1).f0.f1), .string ((rd_T55 l0 x7_1).f0.f2), .string ((rd_T55 l0 x7_1).f0.f3), .int .i64 ((rd_T55 l0 x7_1).f0.f4), .int .i64 ((rd_T55 l0 x7_1).f1)] 55 (0, 0))) := ⟨by (with_reducible repeat (first | refine blk_drewN ?_ _ | refine blk_drew ?_ | refine blk_alloc ?_ _)); refine blk_put (cs := #[.string ((rd_T55 l0 x7_1).f0.f0), .string ((rd_T55 l0 x7_1).f0.f1), .string ((rd_T55 l0 x7_1).f0.f2), .string ((rd_T55 l0 x7_1).f0.f3), .int .i64 ((rd_T55 l0 x7_1).f0.f4), .int .i64 0]) ?_ 5 _ rfl; (with_reducible repeat (first | refine blk_drewN ?_ _ | refine blk_drew ?_ | refine blk_alloc ?_ _)); refine blk_put (cs := #[.string ((rd_T55 l0 x7_1).f0.f0), .string ((rd_T55 l0 x7_1).f0.f1), .string ((rd_T55 l0 x7_1).f0.f2), .string ((rd_T55 l0 x7_1).f0.f3), .int .i64 0, .int .i64 0]) ?_ 4 _ rfl; (with_reducible repeat (first | refine blk_drewN ?_ _ | refine blk_drew ?_ | refine blk_alloc ?_ _)); refine blk_put (cs := #[.string ((rd_T55 l0 x7_1).f0.f0), .string ((rd_T55 l0 x7_1).f0.f1), .string ((rd_T55 l0 x7_1).f0.f2), .string (⟨#[]⟩ : ByteArray), .int .i64 0, .int .i64 0]) ?_ 3 _ rfl; (with_reducible repeat (first | refine blk_drewN ?_ _ | refine blk_drew ?_ | refine blk_alloc ?_ _)); refine blk_put (cs := #[.string ((rd_T55 l0 x7_1).f0.f0), .string ((rd_T55 l0 x7_1).f0.f1), .string (⟨#[]⟩ : ByteArray), .string (⟨#[]⟩ : ByteArray), .int .i64 0, .int .i64 0]) ?_ 2 _ rfl; (with_reducible repeat (first | refine blk_drewN ?_ _ | refine blk_drew ?_ | refine blk_alloc ?_ _)); refine blk_put (cs := #[.string ((rd_T55 l0 x7_1).f0.f0), .string (⟨#[]⟩ : ByteArray), .string (⟨#[]⟩ : ByteArray), .string (⟨#[]⟩ : ByteArray), .int .i64 0, .int .i64 0]) ?_ 1 _ rfl; (with_reducible repeat (first | refine blk_drewN ?_ _ | refine blk_drew ?_ | refine blk_alloc ?_ _)); refine blk_put (cs := #[.string (⟨#[]⟩ : ByteArray), .string (⟨#[]⟩ : ByteArray), .string (⟨#[]⟩ : ByteArray), .string (⟨#[]⟩ : ByteArray), .int .i64 0, .int .i64 0]) ?_ 0 _ rfl; (with_reducible repeat (first | refine blk_drewN ?_ _ | refine blk_drew ?_ | refine blk_alloc ?_ _)); exact BK205.out⟩
           have n1_ : Aside0 (Below w.heap.size w ((((((w21.setCell ⟨gb205, 0, none⟩ (.string ((rd_T55 l0 x7_1).f0.f0))).setCell ⟨gb205, 1, none⟩ (.string ((rd_T55 l0 x7_1).f0.f1))).setCell ⟨gb205, 2, none⟩ (.string ((rd_T55 l0 x7_1).f0.f2))).setCell ⟨gb205, 3, none⟩ (.string ((rd_T55 l0 x7_1).f0.f3))).setCell ⟨gb205, 4, none⟩ (.int .i64 ((rd_T55 l0 x7_1).f0.f4))).setCell ⟨gb205, 5, none⟩ (.int .i64 ((rd_T55 l0 x7_1).f1)))) := ⟨bx⟩
           (try clear BK205)
           (try clear HB)
           generalize ((((((w21.setCell ⟨gb205, 0, none⟩ (.string ((rd_T55 l0 x7_1).f0.f0))).setCell ⟨gb205, 1, none⟩ (.string ((rd_T55 l0 x7_1).f0.f1))).setCell ⟨gb205, 2, none⟩ (.string ((rd_T55 l0 x7_1).f0.f2))).setCell ⟨gb205, 3, none⟩ (.string ((rd_T55 l0 x7_1).f0.f3))).setCell ⟨gb205, 4, none⟩ (.int .i64 ((rd_T55 l0 x7_1).f0.f4))).setCell ⟨gb205, 5, none⟩ (.int .i64 ((rd_T55 l0 x7_1).f1))) = w23 at n0_ n1_ ⊢
           have BK205 := n0_; have HB := n1_; clear n0_ n1_
           have n0_ := Aside0.mk (blk_drew BK205.out)
           have n1_ := Aside0.mk (below_drew1 HB.out)
           clear BK205 HB; have BK205 := n0_; have HB := n1_; clear n0_ n1_
           have p206 : 0 ≤ ((ji11) : Int) := of_decide_eq_true as_
           have q206 : (ji11) < (l0.length : Int) := of_decide_eq_true as_
           obtain ⟨ad206, e206, hx206_0, hx206_1, hx206_2, hx206_3, hx206_4, hx206_5⟩ := at_T55 HR0.out (ji11) p206 q206
           have hw206_5 := hx206_5; have hw206_4 := hx206_4; have hw206_3 := hx206_3; have hw206_2 := hx206_2; have hw206_1 := hx206_1; have hw206_0 := hx206_0
           obtain rfl : ad204 = ad206 := (by injection e206)
           replace hx206_0 := cb HB hx206_0; replace hx206_1 := cb HB hx206_1; replace hx206_2 := cb HB hx206_2; replace hx206_3 := cb HB hx206_3; replace hx206_4 := cb HB hx206_4; replace hx206_5 := cb HB hx206_5; replace p206 := eq_true p206; replace q206 := eq_true q206
           refine start_ (n := 19) (S := fun w' => w'.cell? ⟨gb205, 0, none⟩ = some (.string ((rd_T55 l0 x7_1).f0.f0)) ∧ w'.cell? ⟨gb205, 1, none⟩ = some (.string ((rd_T55 l0 x7_1).f0.f1)) ∧ w'.cell? ⟨gb205, 2, none⟩ = some (.string ((rd_T55 l0 x7_1).f0.f2)) ∧ w'.cell? ⟨gb205, 3, none⟩ = some (.string ((rd_T55 l0 x7_1).f0.f3)) ∧ w'.cell? ⟨gb205, 4, none⟩ = some (.int .i64 ((rd_T55 l0 x7_1).f0.f4)) ∧ w'.cell? ⟨gb205, 5, none⟩ = some (.int .i64 ((rd_T55 l0 x7_1).f1)) ∧ w'.cell? (ad204.add (((ji11)).toNat * 6)) = some (.string ((rd_T55 l0 (ji11)).f0.f0)) ∧ w'.cell? ⟨(ad204.add (((ji11)).toNat * 6)).block, (ad204.add (((ji11)).toNat * 6)).off + 1, none⟩ = some (.string ((rd_T55 l0 (ji11)).f0.f1)) ∧ w'.cell? ⟨(ad204.add (((ji11)).toNat * 6)).block, (ad204.add (((ji11)).toNat * 6)).off + 2, none⟩ = some (.string ((rd_T55 l0 (ji11)).f0.f2)) ∧ w'.cell? ⟨(ad204.add (((ji11)).toNat * 6)).block, (ad204.add (((ji11)).toNat * 6)).off + 3, none⟩ = some (.string ((rd_T55 l0 (ji11)).f0.f3)) ∧ w'.cell? ⟨(ad204.add (((ji11)).toNat * 6)).block, (ad204.add (((ji11)).toNat * 6)).off + 4, none⟩ = some (.int .i64 ((rd_T55 l0 (ji11)).f0.f4)) ∧ w'.cell? ⟨(ad204.add (((ji11)).toNat * 6)).block, (ad204.add (((ji11)).toNat * 6)).off + 5, none⟩ = some (.int .i64 ((rd_T55 l0 (ji11)).f1))) (ds := []) (fl 19 0) (by kernel_rfl) rfl rfl ⟨(blk_cell BK205.out 0).trans rfl, (blk_cell BK205.out 1).trans rfl, (blk_cell BK205.out 2).trans rfl, (blk_cell BK205.out 3).trans rfl, (blk_cell BK205.out 4).trans rfl, (blk_cell BK205.out 5).trans rfl, (cb HB hw206_0), (cb HB hw206_1), (cb HB hw206_2), (cb HB hw206_3), (cb HB hw206_4), (cb HB hw206_5)⟩ (fun hHeld => ?_); refine with_tabW fact_Right.tab4 fact_Right.bits4 (fun HT_ HW_ => ?_)
           generalize w23.drew = w24 at BK205 HB hx206_0 hx206_1 hx206_2 hx206_3 hx206_4 hx206_5 hHeld ⊢
           refine pu 0 (some 12) (fl 19 1) HT_ ?_
           refine tu 1 (some 13) (fl 19 3) HT_ HW_ hHeld ?_
           refine pu 2 (some 14) (fl 19 7) HT_ ?_
           refine pu 3 (some 15) (fl 19 15) HT_ ?_
           refine pu 4 (some 16) (fl 19 31) HT_ ?_
           refine pu 5 (some 17) (fl 19 63) HT_ ?_
           refine pu 6 (some 18) (fl 19 127) HT_ ?_
           refine pu 7 (some 19) (fl 19 255) HT_ ?_
           refine pu 8 (some 20) (fl 19 511) HT_ ?_
           refine pu 9 (some 21) (fl 19 1023) HT_ ?_
           refine pu 10 (some 22) (fl 19 2047) HT_ ?_
           refine pu 11 (some 23) (fl 19 4095) HT_ ?_
           refine pu 13 (some 25) (fl 19 12287) HT_ ?_
           refine tu 12 (some 24) (fl 19 16383) HT_ HW_ hHeld ?_
           refine tu 14 (some 26) (fl 19 32767) HT_ HW_ hHeld ?_
           refine one_ (i := 15) (N := some 27) (fl 19 65535) rfl rfl (one_of HT_.out (by kernel_rfl)) (by decide) (fun K hK => ?_)
           refine goes_ Try.func23 (by kernel_rfl) rfl #[.agg #[.string ((rd_T55 l0 (ji11)).f0.f0), .string ((rd_T55 l0 (ji11)).f0.f1), .string ((rd_T55 l0 (ji11)).f0.f2), .string ((rd_T55 l0 (ji11)).f0.f3), .int .i64 ((rd_T55 l0 (ji11)).f0.f4)], .agg #[.string ((rd_T55 l0 x7_1).f0.f0), .string ((rd_T55 l0 x7_1).f0.f1), .string ((rd_T55 l0 x7_1).f0.f2), .string ((rd_T55 l0 x7_1).f0.f3), .int .i64 ((rd_T55 l0 x7_1).f0.f4)]] (by rfl) rfl rfl (by (try simp only [List.map_toArray, List.map_cons, List.map_nil]); first | done | (simp only [hji11]; rfl) | rfl | (simp only [List.length_drop, List.length_take]; rfl)) ?_
           with_reducible refine (fact_Cmp.calls k1 ((rd_T55 l0 (ji11)).f0.f0) ((rd_T55 l0 (ji11)).f0.f1) ((rd_T55 l0 (ji11)).f0.f2) ((rd_T55 l0 (ji11)).f0.f3) ((rd_T55 l0 (ji11)).f0.f4) ((rd_T55 l0 x7_1).f0.f0) ((rd_T55 l0 x7_1).f0.f1) ((rd_T55 l0 x7_1).f0.f2) ((rd_T55 l0 x7_1).f0.f3) ((rd_T55 l0 x7_1).f0.f4) t207 _ A14.out).mono ?_
           rintro e w25 ⟨rfl, hb⟩
           refine ⟨_, rfl, ?_⟩
           have n0_ := Aside0.mk (blk_below (g := gb205) (o := .cells #[.string ((rd_T55 l0 x7_1).f0.f0), .string ((rd_T55 l0 x7_1).f0.f1), .string ((rd_T55 l0 x7_1).f0.f2), .string ((rd_T55 l0 x7_1).f0.f3), .int .i64 ((rd_T55 l0 x7_1).f0.f4), .int .i64 ((rd_T55 l0 x7_1).f1)] 55 (0, 0)) (by (with_reducible repeat (first | refine blk_drewN ?_ _ | refine blk_drew ?_ | refine blk_alloc ?_ _)); exact BK205.out) hb)
           have n1_ := Aside0.mk (below_step bx hb)
           clear BK205 HB; have BK205 := n0_; have HB := n1_; clear n0_ n1_
           (try clear hb)
           (try clear hb2)
           (try clear hk)
           (try clear hi)
           refine hK.out _ _ ⟨(blk_cell BK205.out 0).trans rfl, (blk_cell BK205.out 1).trans rfl, (blk_cell BK205.out 2).trans rfl, (blk_cell BK205.out 3).trans rfl, (blk_cell BK205.out 4).trans rfl, (blk_cell BK205.out 5).trans rfl, (cb HB hw206_0), (cb HB hw206_1), (cb HB hw206_2), (cb HB hw206_3), (cb HB hw206_4), (cb HB hw206_5)⟩ (fun hHeld => ?_)
           clear hK K
           refine norm_ (a' := ?_) ?_ ?_
           rotate_left
           ·show Act.put _ (some 27) _ = _
            simp only [Act.put, List.setIfInBounds_toArray, List.set_cons_zero, List.set_cons_succ, i64_w, i32_w]
            rfl
           refine pu 16 (some 28) (fl 19 131071) HT_ ?_
           refine pu 17 (some 29) (fl 19 262143) HT_ ?_
           refine pu 18 (some 30) (fl 19 524287) HT_ ?_
           refine done_ (done_of HT_.out (by kernel_rfl)) ?_
           try go_wp2
           go_roundg k1
           case measure => have := HK1.out; omega
           case rel => exact ⟨(wrap64 (x7_1 + 1)), rs_, H', ⟨by have := HK1.out; omega⟩, ⟨bx⟩⟩
         ·rw [if_neg c13] at H
          exact absurd H (by simp)
        ·rw [if_neg c12] at H
         exact absurd H (by simp)
       ·rw [if_neg c10] at H
        have c10b0 : decide (0 < x7_1) = false := decide_eq_false c10
        clear c10
        have H' := Aside0.mk H
        clear H
        have p204 : 0 ≤ (x7_1 : Int) := of_decide_eq_true as_
        have q204 : x7_1 < (l0.length : Int) := of_decide_eq_true as_
        obtain ⟨ad204, e204, hx204_0, hx204_1, hx204_2, hx204_3, hx204_4, hx204_5⟩ := at_T55 HR0.out x7_1 p204 q204
        cases e204; replace hx204_0 := cb HB hx204_0; replace hx204_1 := cb HB hx204_1; replace hx204_2 := cb HB hx204_2; replace hx204_3 := cb HB hx204_3; replace hx204_4 := cb HB hx204_4; replace hx204_5 := cb HB hx204_5; replace p204 := eq_true p204; replace q204 := eq_true q204
        try go_wp2_with (first | ((with_reducible refine gate_dst (N := 4) rfl ?_); refine box_event ?hg (N := 4) ?hd (cs := #[.string (⟨#[]⟩ : ByteArray), .string (⟨#[]⟩ : ByteArray), .string (⟨#[]⟩ : ByteArray), .string (⟨#[]⟩ : ByteArray), .int .i64 0, .int .i64 0]) (t := 55) ?hr ?_; (case hd => rfl); (case hg => rfl); (case hr => first | (go_simp; done) | (go_simp; rfl)); intro gb205 hg w26 hbox hb; have n0_ := Aside0.mk (below_step bw hb); have n1_ := Aside0.mk (hbox); have n2_ := Aside0.mk ((by rw [hg]; exact (below_size bw) : w.heap.size ≤ gb205)); have n3_ := Aside0.mk ((by rw [hg]; exact (below_size bw) : w.heap.size ≤ gb205)); clear HB; have HB := n0_; have BK205 := n1_; have GW205 := n2_; have GE205 := n3_; clear n0_ n1_ n2_ n3_; clear hb hbox hg; obtain ⟨hcz27_0, hcz27_1, hcz27_2, hcz27_3, hcz27_4, hcz27_5⟩ := bc6 BK205.out; have hfz27_0 := blk_frozen BK205.out 0; have hfz27_1 := blk_frozen BK205.out 1; have hfz27_2 := blk_frozen BK205.out 2; have hfz27_3 := blk_frozen BK205.out 3; have hfz27_4 := blk_frozen BK205.out 4; have hfz27_5 := blk_frozen BK205.out 5))
        have n0_ : Aside0 (((((((w26.setCell ⟨gb205, 0, none⟩ (.string ((rd_T55 l0 x7_1).f0.f0))).setCell ⟨gb205, 1, none⟩ (.string ((rd_T55 l0 x7_1).f0.f1))).setCell ⟨gb205, 2, none⟩ (.string ((rd_T55 l0 x7_1).f0.f2))).setCell ⟨gb205, 3, none⟩ (.string ((rd_T55 l0 x7_1).f0.f3))).setCell ⟨gb205, 4, none⟩ (.int .i64 ((rd_T55 l0 x7_1).f0.f4))).setCell ⟨gb205, 5, none⟩ (.int .i64 ((rd_T55 l0 x7_1).f1))).heap[gb205]? = some (.cells #[.string ((rd_T55 l0 x7_1).f0.f0), .string ((rd_T55 l0 x7_1).f0.f1), .string ((rd_T55 l0 x7_1).f0.f2), .string ((rd_T55 l0 x7_1).f0.f3), .int .i64 ((rd_T55 l0 x7_1).f0.f4), .int .i64 ((rd_T55 l0 x7_1).f1)] 55 (0, 0))) := ⟨by (with_reducible repeat (first | refine blk_drewN ?_ _ | refine blk_drew ?_ | refine blk_alloc ?_ _)); refine blk_put (cs := #[.string ((rd_T55 l0 x7_1).f0.f0), .string ((rd_T55 l0 x7_1).f0.f1), .string ((rd_T55 l0 x7_1).f0.f2), .string ((rd_T55 l0 x7_1).f0.f3), .int .i64 ((rd_T55 l0 x7_1).f0.f4), .int .i64 0]) ?_ 5 _ rfl; (with_reducible repeat (first | refine blk_drewN ?_ _ | refine blk_drew ?_ | refine blk_alloc ?_ _)); refine blk_put (cs := #[.string ((rd_T55 l0 x7_1).f0.f0), .string ((rd_T55 l0 x7_1).f0.f1), .string ((rd_T55 l0 x7_1).f0.f2), .string ((rd_T55 l0 x7_1).f0.f3), .int .i64 0, .int .i64 0]) ?_ 4 _ rfl; (with_reducible repeat (first | refine blk_drewN ?_ _ | refine blk_drew ?_ | refine blk_alloc ?_ _)); refine blk_put (cs := #[.string ((rd_T55 l0 x7_1).f0.f0), .string ((rd_T55 l0 x7_1).f0.f1), .string ((rd_T55 l0 x7_1).f0.f2), .string (⟨#[]⟩ : ByteArray), .int .i64 0, .int .i64 0]) ?_ 3 _ rfl; (with_reducible repeat (first | refine blk_drewN ?_ _ | refine blk_drew ?_ | refine blk_alloc ?_ _)); refine blk_put (cs := #[.string ((rd_T55 l0 x7_1).f0.f0), .string ((rd_T55 l0 x7_1).f0.f1), .string (⟨#[]⟩ : ByteArray), .string (⟨#[]⟩ : ByteArray), .int .i64 0, .int .i64 0]) ?_ 2 _ rfl; (with_reducible repeat (first | refine blk_drewN ?_ _ | refine blk_drew ?_ | refine blk_alloc ?_ _)); refine blk_put (cs := #[.string ((rd_T55 l0 x7_1).f0.f0), .string (⟨#[]⟩ : ByteArray), .string (⟨#[]⟩ : ByteArray), .string (⟨#[]⟩ : ByteArray), .int .i64 0, .int .i64 0]) ?_ 1 _ rfl; (with_reducible repeat (first | refine blk_drewN ?_ _ | refine blk_drew ?_ | refine blk_alloc ?_ _)); refine blk_put (cs := #[.string (⟨#[]⟩ : ByteArray), .string (⟨#[]⟩ : ByteArray), .string (⟨#[]⟩ : ByteArray), .string (⟨#[]⟩ : ByteArray), .int .i64 0, .int .i64 0]) ?_ 0 _ rfl; (with_reducible repeat (first | refine blk_drewN ?_ _ | refine blk_drew ?_ | refine blk_alloc ?_ _)); exact BK205.out⟩
        have n1_ : Aside0 (Below w.heap.size w ((((((w26.setCell ⟨gb205, 0, none⟩ (.string ((rd_T55 l0 x7_1).f0.f0))).setCell ⟨gb205, 1, none⟩ (.string ((rd_T55 l0 x7_1).f0.f1))).setCell ⟨gb205, 2, none⟩ (.string ((rd_T55 l0 x7_1).f0.f2))).setCell ⟨gb205, 3, none⟩ (.string ((rd_T55 l0 x7_1).f0.f3))).setCell ⟨gb205, 4, none⟩ (.int .i64 ((rd_T55 l0 x7_1).f0.f4))).setCell ⟨gb205, 5, none⟩ (.int .i64 ((rd_T55 l0 x7_1).f1)))) := ⟨bx⟩
        (try clear BK205)
        (try clear HB)
        generalize ((((((w26.setCell ⟨gb205, 0, none⟩ (.string ((rd_T55 l0 x7_1).f0.f0))).setCell ⟨gb205, 1, none⟩ (.string ((rd_T55 l0 x7_1).f0.f1))).setCell ⟨gb205, 2, none⟩ (.string ((rd_T55 l0 x7_1).f0.f2))).setCell ⟨gb205, 3, none⟩ (.string ((rd_T55 l0 x7_1).f0.f3))).setCell ⟨gb205, 4, none⟩ (.int .i64 ((rd_T55 l0 x7_1).f0.f4))).setCell ⟨gb205, 5, none⟩ (.int .i64 ((rd_T55 l0 x7_1).f1))) = w28 at n0_ n1_ ⊢
        have BK205 := n0_; have HB := n1_; clear n0_ n1_
        have n0_ := Aside0.mk (blk_drew BK205.out)
        have n1_ := Aside0.mk (below_drew1 HB.out)
        clear BK205 HB; have BK205 := n0_; have HB := n1_; clear n0_ n1_
        refine start_ (n := 19) (S := fun w' => w'.cell? ⟨gb205, 0, none⟩ = some (.string ((rd_T55 l0 x7_1).f0.f0)) ∧ w'.cell? ⟨gb205, 1, none⟩ = some (.string ((rd_T55 l0 x7_1).f0.f1)) ∧ w'.cell? ⟨gb205, 2, none⟩ = some (.string ((rd_T55 l0 x7_1).f0.f2)) ∧ w'.cell? ⟨gb205, 3, none⟩ = some (.string ((rd_T55 l0 x7_1).f0.f3)) ∧ w'.cell? ⟨gb205, 4, none⟩ = some (.int .i64 ((rd_T55 l0 x7_1).f0.f4)) ∧ w'.cell? ⟨gb205, 5, none⟩ = some (.int .i64 ((rd_T55 l0 x7_1).f1))) (ds := []) (fl 19 0) (by kernel_rfl) rfl rfl ⟨(blk_cell BK205.out 0).trans rfl, (blk_cell BK205.out 1).trans rfl, (blk_cell BK205.out 2).trans rfl, (blk_cell BK205.out 3).trans rfl, (blk_cell BK205.out 4).trans rfl, (blk_cell BK205.out 5).trans rfl⟩ (fun hHeld => ?_); refine with_tabW fact_Right.tab4 fact_Right.bits4 (fun HT_ HW_ => ?_)
        generalize w28.drew = w29 at BK205 HB hHeld ⊢
        refine pu 0 (some 12) (fl 19 1) HT_ ?_
        refine tu 1 (some 13) (fl 19 3) HT_ HW_ hHeld ?_
        refine pu 2 (some 14) (fl 19 7) HT_ ?_
        refine pu 3 (some 15) (fl 19 15) HT_ ?_
        refine pu 4 (some 16) (fl 19 31) HT_ ?_
        refine pu 5 (some 17) (fl 19 63) HT_ ?_
        refine pu 6 (some 18) (fl 19 127) HT_ ?_
        refine pure_ (i := 7) (N := some 19) (v := undef) (a' := ?_) (fl 19 255) rfl rfl (any_of HT_.out (by kernel_rfl)) (fun _ _ _ h => h) (Or.inr ⟨by rfl, rfl⟩) ?_ ?_
        rotate_left
        ·simp only [Act.put, List.setIfInBounds_toArray, List.set_cons_zero, List.set_cons_succ, i64_w, i32_w]
         rfl
        refine pure_ (i := 8) (N := some 20) (v := undef) (a' := ?_) (fl 19 511) rfl rfl (any_of HT_.out (by kernel_rfl)) (fun _ _ _ h => h) (Or.inr ⟨by rfl, rfl⟩) ?_ ?_
        rotate_left
        ·simp only [Act.put, List.setIfInBounds_toArray, List.set_cons_zero, List.set_cons_succ, i64_w, i32_w]
         rfl
        refine pure_ (i := 9) (N := some 21) (v := undef) (a' := ?_) (fl 19 1023) rfl rfl (any_of HT_.out (by kernel_rfl)) (fun _ _ _ h => h) (Or.inr ⟨by rfl, rfl⟩) ?_ ?_
        rotate_left
        ·simp only [Act.put, List.setIfInBounds_toArray, List.set_cons_zero, List.set_cons_succ, i64_w, i32_w]
         rfl
        refine pure_ (i := 10) (N := some 22) (v := undef) (a' := ?_) (fl 19 2047) rfl rfl (any_of HT_.out (by kernel_rfl)) (fun _ _ _ h => h) (Or.inr ⟨by rfl, rfl⟩) ?_ ?_
        rotate_left
        ·simp only [Act.put, List.setIfInBounds_toArray, List.set_cons_zero, List.set_cons_succ, i64_w, i32_w]
         rfl
        refine pure_ (i := 11) (N := some 23) (v := undef) (a' := ?_) (fl 19 4095) rfl rfl (any_of HT_.out (by kernel_rfl)) (fun _ _ _ h => h) (Or.inr ⟨by rfl, rfl⟩) ?_ ?_
        rotate_left
        ·simp only [Act.put, List.setIfInBounds_toArray, List.set_cons_zero, List.set_cons_succ, i64_w, i32_w]
         rfl
        refine pure_ (i := 12) (N := some 24) (v := undef) (a' := ?_) (fl 19 8191) rfl rfl (any_of HT_.out (by kernel_rfl)) (fun _ _ _ h => h) (Or.inr ⟨by rfl, rfl⟩) ?_ ?_
        rotate_left
        ·simp only [Act.put, List.setIfInBounds_toArray, List.set_cons_zero, List.set_cons_succ, i64_w, i32_w]
         rfl
        refine pure_ (i := 13) (N := some 25) (v := undef) (a' := ?_) (fl 19 16383) rfl rfl (any_of HT_.out (by kernel_rfl)) (fun _ _ _ h => h) (Or.inr ⟨by rfl, rfl⟩) ?_ ?_
        rotate_left
        ·simp only [Act.put, List.setIfInBounds_toArray, List.set_cons_zero, List.set_cons_succ, i64_w, i32_w]
         rfl
        refine pure_ (i := 14) (N := some 26) (v := undef) (a' := ?_) (fl 19 32767) rfl rfl (any_of HT_.out (by kernel_rfl)) (fun _ _ _ h => h) (Or.inr ⟨by rfl, rfl⟩) ?_ ?_
        rotate_left
        ·simp only [Act.put, List.setIfInBounds_toArray, List.set_cons_zero, List.set_cons_succ, i64_w, i32_w]
         rfl
        refine pure_ (i := 15) (N := some 27) (v := undef) (a' := ?_) (fl 19 65535) rfl rfl (any_of HT_.out (by kernel_rfl)) (fun _ _ _ h => h) (Or.inr ⟨by rfl, rfl⟩) ?_ ?_
        rotate_left
        ·simp only [Act.put, List.setIfInBounds_toArray, List.set_cons_zero, List.set_cons_succ, i64_w, i32_w]
         rfl
        refine pure_ (i := 16) (N := some 28) (v := undef) (a' := ?_) (fl 19 131071) rfl rfl (any_of HT_.out (by kernel_rfl)) (fun _ _ _ h => h) (Or.inr ⟨by rfl, rfl⟩) ?_ ?_
        rotate_left
        ·simp only [Act.put, List.setIfInBounds_toArray, List.set_cons_zero, List.set_cons_succ, i64_w, i32_w]
         rfl
        refine pu 17 (some 29) (fl 19 262143) HT_ ?_
        refine pu 18 (some 30) (fl 19 524287) HT_ ?_
        refine done_ (done_of HT_.out (by kernel_rfl)) ?_
        try go_wp2
        go_roundg k1
        case measure => have := HK1.out; omega
        case rel => exact ⟨(wrap64 (x7_1 + 1)), rs_, H', ⟨by have := HK1.out; omega⟩, ⟨bx⟩⟩
     ·rw [if_neg c4] at H
      exact absurd H (by simp)
    ·rw [if_neg c3] at H
     exact absurd H (by simp)
   ·rw [if_neg c2] at H
    have c2b0 : decide (x7_1 < (l0.length : Int)) = false := decide_eq_false c2
    clear c2
    obtain rfl := Option.some.inj H
    go_wp2; go_ret
    exact ⟨re_, bw⟩

end Go.Proofs.Ytdckeflggcefbaa.Y
namespace Go.Proofs.Ytdckeflggcefbaa.Y
open Go.RowKit Go.Proofs.YtdckeflggcefbaaW.PrintWords Go.Proofs.YtdckeflggcefbaaW.PrintLast Go.Proofs.YtdckeflggcefbaaW.PrintMore
set_option linter.unusedVariables false
set_option linter.unusedSimpArgs false
def fact_Grow.f (a1 : Int) : Option (List S55) := if 0 ≤ a1 ∧ a1 < 1759218604441 then some [] else none
set_option maxHeartbeats 8000000 in
set_option maxRecDepth 100000 in
theorem fact_Grow.calls (a1 : Int) (r : List (S55)) (w : World) (h : fact_Grow.f a1 = some r) :
    Calls Try.prog 40 #[.slice none 0 0, .int .i64 a1] w fun e w' => ∃ v0_ : Value, e = .returned (v0_) ∧ Kd.R k55 55 w' w.heap.size (fun _ => True) v0_ r ∧ Below w.heap.size w w' := by
  have H : (if 0 ≤ a1 ∧ a1 < 1759218604441 then some ([] : List S55) else none) = some r := h
  clear h
  by_cases c1 : 0 ≤ a1 ∧ a1 < 1759218604441
  case neg => rw [if_neg c1] at H; exact absurd H (by simp)
  rw [if_pos c1] at H
  obtain rfl := Option.some.inj H
  clear H
  obtain ⟨c1, c2⟩ := c1
  have hn : decide (a1 < 0) = false := decide_eq_false (by omega)
  obtain ⟨i55, hi, hzz⟩ := Option.map_eq_some_iff.1 info55
  have cz : ∀ W : World, (Instr.slice 30 (.slice none 0 0) none (some (.int .i64 0)) none).run Try.prog W = .ok (.slice none 0 0) W := fun W => cut_to 30 55 .i64 Try.underlying30 hi none 0 0 0 (by omega) (by omega) (by omega) W
  by_cases c3 : a1 = 0
  · subst c3
    clear hi hzz c1 c2
    go_enter Try.func40, Try.ntmps40
    go_wp2
    go_ret
    exact ⟨_, rfl, Kd.R_nil _ _ _ _ _, Below.refl _ _⟩
  · have hp : decide (0 < a1) = true := decide_eq_true (by omega)
    have C1 := Aside0.mk c1
    have C2 := Aside0.mk c2
    have HI := Aside0.mk hi
    have c4 : 0 < a1 := by omega
    clear hi hzz c3
    go_enter Try.func40, Try.ntmps40
    go_wp2_with ((with_reducible refine gate_builtin (b := .append) (xs := #[.tmp 20, .tmp 21]) rfl ?_); at_builtin; refine Kd.R_append_zeros k55 (w0 := w) w.heap.size rfl (.tmp 20) (.tmp 21) 30 3 55 (.agg #[(.string ⟨#[]⟩), (.string ⟨#[]⟩), (.string ⟨#[]⟩), (.string ⟨#[]⟩), (.int .i64 0), (.int .i64 0)]) 80 rfl Try.underlying30 Try.underlying3 info55 rfl (by decide) (by omega) (.slice none 0 0) ([] : List S55) z55 (a1 : Int) (fun _ => True) rfl rfl (k55_mkM _ _ _ z55) ?aF ?aO C1.out ?aB ?aS ?aL ?_; (case aB => exact Below.refl _ _); (case aF => exact (fun _ _ => trivial)); (case aO => exact Kd.R_nil _ _ _ _ _); (case aS => exact Nat.le_refl _); (case aL => have := C2.out; have := C1.out; simp; omega); intro v272 w8 ho hb hg hat; obtain ⟨A, c, rfl, hl, _⟩ := Kd.R_reads ho; have HO := Aside0.mk ho; have HB := Aside0.mk hb; have cut := cut_to (P := Try.prog) 30 55 .i64 Try.underlying30 HI.out A (([] : List S55) ++ List.replicate a1.toNat z55).length c 0 (by omega) (by omega) hl; clear ho hb hg hat hl)
    go_ret
    refine ⟨_, rfl, ?_, HB.out⟩
    have := Kd.R_take HO.out (m := 0) (by omega)
    simpa using this
end Go.Proofs.Ytdckeflggcefbaa.Y
namespace Go.Proofs.Ytdckeflggcefbaa.Y
open Go.RowKit Go.Proofs.YtdckeflggcefbaaW.PrintWords Go.Proofs.YtdckeflggcefbaaW.PrintLast Go.Proofs.YtdckeflggcefbaaW.PrintMore
attribute [local go_sem] max2_int min2_int max_two min_two max_three min_three max_four min_four
set_option linter.unusedVariables false
set_option linter.unusedSimpArgs false

/-! ### fact_Fact_25: function 25 -/
mutual
def fact_Fact_25.l0 : Nat → List (List (S55)) → Int → List (List (S55)) → Int → Int → Option ((List (S55)))
 | 0, _, _, _, _, _ => none
 | k + 1, x0, x3, x9, x10, x11 => if x11 < x10 then (if 0 ≤ x11 then (if x11 < (x9.length : Int) then (if (wrap64 (x3 + ((rd_L4 x9 x11).length : Int))) < 0 then (none) else (fact_Fact_25.l0 k x0 (wrap64 (x3 + ((rd_L4 x9 x11).length : Int))) x9 x10 (wrap64 (x11 + 1)))) else (none)) else (none)) else ((fact_Grow.f x3).bind fun t162 => (fact_Fact_25.l1 k t162 x0 (x0.length : Int) 0))
def fact_Fact_25.l1 : Nat → List (S55) → List (List (S55)) → Int → Int → Option ((List (S55)))
 | 0, _, _, _, _ => none
 | k + 1, x6, x25, x26, x27 => if x27 < x26 then (if 0 ≤ x27 then (if x27 < (x25.length : Int) then (if x6.length + (rd_L4 x25 x27).length < 1759218604441 then (fact_Fact_25.l1 k (x6 ++ (rd_L4 x25 x27)) x25 x26 (wrap64 (x27 + 1))) else (none)) else (none)) else (none)) else (some x6)
end
def fact_Fact_25.f (k : Nat) (l0 : List (List (S55))) : Option ((List (S55))) := fact_Fact_25.l0 k l0 0 l0 (l0.length : Int) 0
theorem fact_Fact_25.mono_l : ∀ k, (∀ y0 y1 y2 y3 y4, LeO (fact_Fact_25.l0 k y0 y1 y2 y3 y4) (fact_Fact_25.l0 (k + 1) y0 y1 y2 y3 y4)) ∧ (∀ y0 y1 y2 y3, LeO (fact_Fact_25.l1 k y0 y1 y2 y3) (fact_Fact_25.l1 (k + 1) y0 y1 y2 y3))
 | 0 => ⟨fun _ _ _ _ _ r h => by simp [fact_Fact_25.l0] at h, fun _ _ _ _ r h => by simp [fact_Fact_25.l1] at h⟩
 | k + 1 => by
  obtain ⟨ih0, ih1⟩ := fact_Fact_25.mono_l k
  refine ⟨?_, ?_⟩
  ·intro y0 y1 y2 y3 y4
   unfold fact_Fact_25.l0
   with_reducible repeat' first | apply ih0 | apply ih1 | refine LeO.refl _ | refine LeO.none _ | refine LeO.ite ?_ ?_ | refine LeO.bind ?_ (fun _ => ?_)
  ·intro y0 y1 y2 y3
   unfold fact_Fact_25.l1
   with_reducible repeat' first | apply ih0 | apply ih1 | refine LeO.refl _ | refine LeO.none _ | refine LeO.ite ?_ ?_ | refine LeO.bind ?_ (fun _ => ?_)
theorem fact_Fact_25.mono : ∀ a0 k, LeO (fact_Fact_25.f k a0) (fact_Fact_25.f (k + 1) a0) := by
 intro a0 k
 obtain ⟨ih0, ih1⟩ := fact_Fact_25.mono_l k
 unfold fact_Fact_25.f
 with_reducible repeat' first | apply ih0 | apply ih1 | refine LeO.refl _ | refine LeO.none _ | refine LeO.ite ?_ ?_ | refine LeO.bind ?_ (fun _ => ?_)
set_option maxHeartbeats 8000000 in
set_option maxRecDepth 100000 in
theorem fact_Fact_25.calls (k : Nat) (A0 : Option Addr) (c0 : Nat) (l0 : List (List (S55))) (r : List (S55)) (w : World) (hr0 : Kd.C (Kd.slice 55 k55) w A0 l0.length l0) (hc0 : l0.length ≤ c0) (h : fact_Fact_25.f k l0 = some r) :
  Calls Try.prog 25 #[.slice A0 l0.length c0] w fun e w' => ∃ v0_ : Value, e = .returned (v0_) ∧ Kd.R k55 55 w' w.heap.size (fun _ => True) v0_ r ∧ Below w.heap.size w w' := by
 have HR0 := Aside0.mk hr0; have HC0 := Aside0.mk hc0; clear hr0 hc0
 have HB := Aside0.mk (Below.refl w.heap.size w)
 have H : (fact_Fact_25.l0 k l0 0 l0 (l0.length : Int) 0) = some r := h
 clear h
 have H' := Aside0.mk H
 clear H
 go_enter Try.func25, Try.ntmps25
 go_wp2
 go_loopg [3, 11] k (fun kq v3 v11 w' => ∃ (x3_1 : Int) (x11_1 : Int), v3 = .int .i64 x3_1 ∧ v11 = .int .i64 x11_1 ∧ Aside0 (fact_Fact_25.l0 kq l0 x3_1 l0 (l0.length : Int) x11_1 = some r) ∧ Aside0 (kq ≤ k) ∧ Aside0 (Below w.heap.size w w'))
 case atStart => exact ⟨(0), (0), rs_, rs_, H', ⟨Nat.le_refl _⟩, ⟨bw⟩⟩
 case round =>
  clear H'
  obtain ⟨x3_1, x11_1, rfl, rfl, HA, HK1, HB⟩ := hrel
  cases gk with
  | zero => exact absurd HA.out (by simp [fact_Fact_25.l0])
  | succ k1 =>
   have H := HA.out; clear HA
   simp only [fact_Fact_25.l0] at H
   by_cases c2 : x11_1 < (l0.length : Int)
   ·rw [if_pos c2] at H
    have c2b0 : decide (x11_1 < (l0.length : Int)) = true := decide_eq_true c2
    clear c2
    by_cases c3 : 0 ≤ x11_1
    ·rw [if_pos c3] at H
     have c3b0 : decide (0 ≤ x11_1) = true := decide_eq_true c3
     clear c3
     by_cases c4 : x11_1 < (l0.length : Int)
     ·rw [if_pos c4] at H
      have c4b0 : decide (x11_1 < (l0.length : Int)) = true := decide_eq_true c4
      clear c4
      by_cases c5 : (wrap64 (x3_1 + ((rd_L4 l0 x11_1).length : Int))) < 0
      ·rw [if_pos c5] at H
       exact absurd H (by simp)
      ·rw [if_neg c5] at H
       have c5b0 : decide ((wrap64 (x3_1 + ((rd_L4 l0 x11_1).length : Int))) < 0) = false := decide_eq_false c5
       clear c5
       have H' := Aside0.mk H
       clear H
       have p161 : 0 ≤ (x11_1 : Int) := of_decide_eq_true as_
       have q161 : x11_1 < (l0.length : Int) := of_decide_eq_true as_
       obtain ⟨ad161, A161_0, c161_0, e161, hx161_0, hl161_0, hi161_0⟩ := at_L4 HR0.out x11_1 p161 q161
       cases e161; replace hx161_0 := cb HB hx161_0; have HR161_0 := Aside0.mk hi161_0; have HC161_0 := Aside0.mk hl161_0; clear hi161_0 hl161_0; replace p161 := eq_true p161; replace q161 := eq_true q161; go_wp2
       go_roundg k1
       case measure => have := HK1.out; omega
       case rel => exact ⟨(wrap64 (x3_1 + ((rd_L4 l0 x11_1).length : Int))), (wrap64 (x11_1 + 1)), rs_, rs_, H', ⟨by have := HK1.out; omega⟩, ⟨bw⟩⟩
     ·rw [if_neg c4] at H
      exact absurd H (by simp)
    ·rw [if_neg c3] at H
     exact absurd H (by simp)
   ·rw [if_neg c2] at H
    have c2b0 : decide (x11_1 < (l0.length : Int)) = false := decide_eq_false c2
    clear c2
    replace H := Option.bind_eq_some_iff.mp H
    obtain ⟨t162, A60, H⟩ := H
    replace H : (fact_Fact_25.l1 k1 t162 l0 (l0.length : Int) 0) = some r := H
    have A6 := Aside0.mk A60; clear A60
    have H' := Aside0.mk H
    clear H
    go_wp2_with (first | ((with_reducible refine gate_callee (f := 40) rfl ?_); refine goesL_ (some 24) rfl rfl Try.func40 (by kernel_rfl) rfl #[.slice none 0 0, .int .i64 x3_1] rfl mp_ ?_; (with_reducible refine (fact_Grow.calls  x3_1 t162 _ A6.out).mono ?_); rintro e w7 ⟨v163, rfl, ho0, hb⟩; refine ⟨_, rfl, ?_⟩; have n0_ := Aside0.mk (Kd.R_lower ho0 (below_size bw)); have n1_ := Aside0.mk (below_step bw hb); clear HB; have HO164 := n0_; have HB := n1_; clear n0_ n1_; (try clear hb); (try clear hb2); (try clear hk); (try clear hi); (try clear ho0)))
    go_loopg [6, 27] k1 (fun kq v6 v27 w' => ∃ (x6_2 : List (S55)) (x27_2 : Int), v27 = .int .i64 x27_2 ∧ Aside0 (fact_Fact_25.l1 kq x6_2 l0 (l0.length : Int) x27_2 = some r) ∧ Aside0 (kq ≤ k1) ∧ Aside0 (Kd.R k55 55 w' w.heap.size (fun _ => True) v6 x6_2) ∧ Aside0 (Below w.heap.size w w'))
    case atStart => exact ⟨(t162), (0), rs_, H', ⟨Nat.le_refl _⟩, ⟨kr HO164⟩, ⟨bw⟩⟩
    case round =>
     clear H'
     (try clear c1); (try clear p1); (try clear q1); (try clear hx1); (try clear c2); (try clear c2b0); (try clear p2); (try clear c3); (try clear c3b0); (try clear c4); (try clear c4b0); (try clear c5); (try clear c5b0); (try clear p6); (try clear hx161_0); (try clear p161); (try clear q161)
     obtain ⟨x6_2, x27_2, rfl, HA, HK2, HO_6, HB⟩ := hrel
     cases gk with
     | zero => exact absurd HA.out (by simp [fact_Fact_25.l1])
     | succ k2 =>
      have H := HA.out; clear HA
      simp only [fact_Fact_25.l1] at H
      by_cases c8 : x27_2 < (l0.length : Int)
      ·rw [if_pos c8] at H
       have c8b0 : decide (x27_2 < (l0.length : Int)) = true := decide_eq_true c8
       clear c8
       by_cases c9 : 0 ≤ x27_2
       ·rw [if_pos c9] at H
        have c9b0 : decide (0 ≤ x27_2) = true := decide_eq_true c9
        clear c9
        by_cases c10 : x27_2 < (l0.length : Int)
        ·rw [if_pos c10] at H
         have c10b0 : decide (x27_2 < (l0.length : Int)) = true := decide_eq_true c10
         clear c10
         by_cases c11 : x6_2.length + (rd_L4 l0 x27_2).length < 1759218604441
         ·rw [if_pos c11] at H; have LMc11 := Aside0.mk c11; clear c11
          obtain ⟨y166, hy166⟩ : ∃ y_ : List (S55), y_ = (x6_2 ++ (rd_L4 l0 x27_2)) := ⟨_, rfl⟩
          replace H : (fact_Fact_25.l1 k2 y166 l0 (l0.length : Int) (wrap64 (x27_2 + 1))) = some r := rh hy166 H
          have Ny166 := Aside0.mk hy166; clear hy166
          have H' := Aside0.mk H
          clear H
          have p165 : 0 ≤ (x27_2 : Int) := of_decide_eq_true as_
          have q165 : x27_2 < (l0.length : Int) := of_decide_eq_true as_
          obtain ⟨ad165, A165_0, c165_0, e165, hx165_0, hl165_0, hi165_0⟩ := at_L4 HR0.out x27_2 p165 q165
          cases e165; replace hx165_0 := cb HB hx165_0; have HR165_0 := Aside0.mk hi165_0; have HC165_0 := Aside0.mk hl165_0; clear hi165_0 hl165_0; replace p165 := eq_true p165; replace q165 := eq_true q165
          go_wp2_with (first | ((with_reducible refine gate_builtin (b := .append) (xs := #[.tmp 31, .tmp 32]) rfl ?_); at_builtin; refine Kd.R_append_rows k55 (w0 := w) w.heap.size rfl (.tmp 31) (.tmp 32) 30 55 (.agg #[(.string ⟨#[]⟩), (.string ⟨#[]⟩), (.string ⟨#[]⟩), (.string ⟨#[]⟩), (.int .i64 0), (.int .i64 0)]) 80 rfl Try.underlying30 info55 rfl (by decide) (by omega) u6 x6_2 (rd_L4 l0 x27_2) _ _ _ (fun _ => True) (fun _ => False) rfl rfl ?aO ?aR (fun _ _ h => h) (fun _ h => h.elim) ?aF ?aB ?aS ?aL ?_; (case aR => repeat (first | exact (Kd.C_below HR165_0.out HB.out) | (with_reducible refine Kd.C_alloc ?_ _) | (with_reducible refine Kd.C_drewN ?_ _) | (with_reducible refine Kd.C_drew ?_))); (case aB => exact bw); (case aF => exact (fun _ _ => trivial)); (case aO => exact (kr HO_6)); (case aS => exact (below_size bw)); (case aL => have := LMc11.out; omega); intro v167 w12 ho hb hg hat; rw [← Ny166.out] at ho; have n0_ := Aside0.mk (hb); have n1_ := Aside0.mk (ho); clear HB; clear HO_6; have HB := n0_; have HO168 := n1_; clear n0_ n1_; clear ho hb hg hat))
          go_roundg k2
          case measure => have := HK1.out; have := HK2.out; omega
          case rel => exact ⟨(y166), (wrap64 (x27_2 + 1)), rs_, H', ⟨by have := HK1.out; have := HK2.out; omega⟩, ⟨kr HO168⟩, ⟨bw⟩⟩
         ·rw [if_neg c11] at H
          exact absurd H (by simp)
        ·rw [if_neg c10] at H
         exact absurd H (by simp)
       ·rw [if_neg c9] at H
        exact absurd H (by simp)
      ·rw [if_neg c8] at H
       have c8b0 : decide (x27_2 < (l0.length : Int)) = false := decide_eq_false c8
       clear c8
       obtain rfl := Option.some.inj H
       go_wp2; go_ret
       exact ⟨_, by first | rfl | (simp [errW_none, errW_some] <;> rfl) | (simp [*, errW_none, errW_some] <;> rfl), kr HO_6, bw⟩

end Go.Proofs.Ytdckeflggcefbaa.Y
namespace Go.Proofs.Ytdckeflggcefbaa.Y
open Go.RowKit Go.Proofs.YtdckeflggcefbaaW.PrintWords Go.Proofs.YtdckeflggcefbaaW.PrintLast Go.Proofs.YtdckeflggcefbaaW.PrintMore
set_option linter.unusedVariables false
set_option linter.unusedSimpArgs false
theorem swap_app' (P M Q : List S55) (x y : S55) (i j : Int) (hi : i = P.length) (hj : j = P.length + 1 + M.length) :
    ((P ++ (x :: (M ++ y :: Q))).set j.toNat x).set i.toNat y = P ++ (y :: (M ++ x :: Q)) := by
  rw [List.set_comm _ _ (by omega)]
  exact swap_app P M Q x y i j hi hj
theorem Ev.some {α : Type} {f : Nat → Option α} {r : α} (h : ∀ k, f (k + 1) = Option.some r) : Ev f r := ⟨1, fun k hk => by obtain ⟨k, rfl⟩ : ∃ j, k = j + 1 := ⟨k - 1, by omega⟩; exact h k⟩
theorem l47_l1_end {xs : List S55} {a b i j : Int} (k : Nat) (h : ¬ j > a) (hi : 0 ≤ i) (hi2 : i ≤ 1000000000000000000) : fact_Fact_47.l1 (k + 1) xs a b i j = fact_Fact_47.l0 k xs a b (i + 1) := by
  simp only [fact_Fact_47.l1]; rw [if_neg h, w64 (n := i + 1) (by omega) (by omega)]
theorem l47_l1_step {xs : List S55} {a b i j : Int} (k : Nat) (hs : Sm xs.length) (h : j > a) (ha : 0 ≤ a) (hj : j < xs.length) (hi : 0 ≤ i) (hi2 : i ≤ 1000000000000000000) :
    fact_Fact_47.l1 (k + 1) xs a b i j = (fact_Of_1.f k (rd_T55 xs j).f0.f0 (rd_T55 xs j).f0.f1 (rd_T55 xs j).f0.f2 (rd_T55 xs j).f0.f3 (rd_T55 xs j).f0.f4 (rd_T55 xs j).f1 (rd_T55 xs (j - 1)).f0.f0 (rd_T55 xs (j - 1)).f0.f1 (rd_T55 xs (j - 1)).f0.f2 (rd_T55 xs (j - 1)).f0.f3 (rd_T55 xs (j - 1)).f0.f4 (rd_T55 xs (j - 1)).f1).bind fun t => if t < 0 then fact_Fact_47.l1 k ((xs.set j.toNat (rd_T55 xs (j - 1))).set (j - 1).toNat (rd_T55 xs j)) a b i (j - 1) else fact_Fact_47.l0 k xs a b (i + 1) := by
  unfold Sm at hs
  simp only [fact_Fact_47.l1]
  rw [if_pos h, w64 (n := j - 1) (by omega) (by omega), w64 (n := i + 1) (by omega) (by omega), if_pos (by omega), if_pos hj, if_pos (by omega), if_pos (by omega)]
theorem ins_ev : ∀ (n : Nat) (A R P : List S55) (y : S55) (a b i j : Int), A.length = n → Sm (P ++ (A ++ y :: R)).length → a = P.length → j = P.length + A.length → 0 ≤ i → i ≤ 1000000000000000000 →
    ∃ A1 A2, A = A1 ++ A2 ∧ (∀ z ∈ A2, cmpS y z < 0) ∧ (A1 = [] ∨ ∃ A0 z, A1 = A0 ++ [z] ∧ ¬ cmpS y z < 0) ∧
      ∀ r, Ev (fun k => fact_Fact_47.l0 k (P ++ (A1 ++ y :: (A2 ++ R))) a b (i + 1)) r → Ev (fun k => fact_Fact_47.l1 k (P ++ (A ++ y :: R)) a b i j) r
  | 0, A, R, P, y, a, b, i, j, hn, hs, ha, hj, hi, hi2 => by
    obtain rfl := List.length_eq_zero_iff.1 hn
    refine ⟨[], [], rfl, by simp, .inl rfl, fun r h => Ev.step h fun k => ?_⟩
    show fact_Fact_47.l1 (k + 1) _ _ _ _ _ = _
    rw [l47_l1_end k (by simp at hj; omega) hi hi2]
    simp
  | n + 1, A, R, P, y, a, b, i, j, hn, hs, ha, hj, hi, hi2 => by
    obtain ⟨A', z, rfl⟩ : ∃ A' z, A = A' ++ [z] := ⟨A.dropLast, A.getLast (by intro e; simp [e] at hn), (List.dropLast_concat_getLast _).symm⟩
    have hn' : A'.length = n := by simpa using hn
    have hlen : (P ++ ((A' ++ [z]) ++ y :: R)).length = P.length + A'.length + R.length + 2 := by simp; omega
    have hj' : j = P.length + A'.length + 1 := by simp at hj; omega
    have e1 : P ++ ((A' ++ [z]) ++ y :: R) = (P ++ A') ++ (z :: ([] ++ y :: R)) := by simp
    have e2 : P ++ ((A' ++ [z]) ++ y :: R) = (P ++ (A' ++ [z])) ++ (y :: R) := by simp
    have r1 : rd_T55 (P ++ ((A' ++ [z]) ++ y :: R)) j = y := by rw [e2]; exact rd_app _ _ _ _ (by simp; omega)
    have r2 : rd_T55 (P ++ ((A' ++ [z]) ++ y :: R)) (j - 1) = z := by rw [e1]; exact rd_app _ _ _ _ (by simp; omega)
    have step := fun k => l47_l1_step (b := b) (i := i) (a := a) k hs (show j > a by omega) (by omega) (by rw [hlen]; omega) hi hi2
    simp only [r1, r2] at step
    by_cases hc : cmpS y z < 0
    · obtain ⟨A1, A2, e, h1, h2, h3⟩ := ins_ev n A' (z :: R) P y a b i (j - 1) hn' (by unfold Sm at hs ⊢; rw [hlen] at hs; simp; omega) ha (by omega) hi hi2
      refine ⟨A1, A2 ++ [z], by rw [e]; simp, ?_, h2, fun r h => ?_⟩
      · intro q hq
        rcases List.mem_append.1 hq with hq | hq
        · exact h1 q hq
        · obtain rfl := List.mem_singleton.1 hq; exact hc
      · refine Ev.step (Ev.bind (g := fun k t => if t < 0 then fact_Fact_47.l1 k (((P ++ ((A' ++ [z]) ++ y :: R)).set j.toNat z).set (j - 1).toNat y) a b i (j - 1) else fact_Fact_47.l0 k (P ++ ((A' ++ [z]) ++ y :: R)) a b (i + 1)) (of1_ev y z) ?_) step
        have e3 : ((P ++ ((A' ++ [z]) ++ y :: R)).set j.toNat z).set (j - 1).toNat y = P ++ (A' ++ y :: (z :: R)) := by
          rw [e1, swap_app' (P ++ A') [] R z y (j - 1) j (by simp; omega) (by simp; omega)]; simp
        simp only [if_pos hc, e3]
        refine h3 r (h.eq fun k => ?_)
        simp
    · refine ⟨A' ++ [z], [], by simp, by simp, .inr ⟨A', z, rfl, hc⟩, fun r h => ?_⟩
      refine Ev.step (Ev.bind (g := fun k t => if t < 0 then fact_Fact_47.l1 k (((P ++ ((A' ++ [z]) ++ y :: R)).set j.toNat z).set (j - 1).toNat y) a b i (j - 1) else fact_Fact_47.l0 k (P ++ ((A' ++ [z]) ++ y :: R)) a b (i + 1)) (of1_ev y z) ?_) step
      simp only [if_neg hc]
      exact h.eq fun k => by simp
theorem last_le {A0 : List S55} {z : S55} (h : Srt (A0 ++ [z])) : ∀ q ∈ A0 ++ [z], cmpS q z ≤ 0 := by
  intro q hq
  rcases List.mem_append.1 hq with hq | hq
  · exact h.across q hq z (by simp)
  · obtain rfl := List.mem_singleton.1 hq; exact Int.le_of_eq (cmpS_good.refl _)
theorem SS.insert {S0 A1 A2 : List S55} {y : S55} (h : SS S0 (A1 ++ A2)) (h1 : ∀ z ∈ A2, cmpS y z < 0) (h2 : A1 = [] ∨ ∃ A0 z, A1 = A0 ++ [z] ∧ ¬ cmpS y z < 0) : SS (S0 ++ [y]) (A1 ++ y :: A2) := by
  have hle : ∀ q ∈ A1, cmpS q y ≤ 0 := by
    rcases h2 with rfl | ⟨A0, z, rfl, hz⟩
    · simp
    · intro q hq
      exact cmpS_good.trans _ _ _ (last_le h.1.left q hq) (le_of_not_lt hz)
  refine ⟨h.1.left.app (List.pairwise_cons.2 ⟨fun z hz => by have := h1 z hz; omega, h.1.right⟩) ?_, fun x => ?_⟩
  · intro q hq z hz
    rcases List.mem_cons.1 hz with rfl | hz
    · exact hle q hq
    · exact h.1.across q hq z hz
  · have e := filter_cross (a := A2) (b := [y]) (fun z hz q hq => by obtain rfl := List.mem_singleton.1 hq; exact h1 z hz) x
    rw [show A1 ++ y :: A2 = A1 ++ ([y] ++ A2) by simp, List.filter_append, e, List.filter_append, ← List.append_assoc, ← List.filter_append, h.2 x, List.filter_append]
theorem l47_ev : ∀ (T S S0 P Q : List S55) (a b i : Int), SS S0 S → Sm (P ++ (S ++ (T ++ Q))).length → a = P.length → i = P.length + S.length → b = i + T.length →
    ∃ S', SS (S0 ++ T) S' ∧ S'.length = S.length + T.length ∧ Ev (fun k => fact_Fact_47.l0 k (P ++ (S ++ (T ++ Q))) a b i) (P ++ (S' ++ Q))
  | [], S, S0, P, Q, a, b, i, h, hs, ha, hi, hb => by
    refine ⟨S, by simpa using h, by simp, Ev.some fun k => ?_⟩
    simp only [fact_Fact_47.l0]
    rw [if_neg (by simp at hb; omega)]
    simp
  | y :: T, S, S0, P, Q, a, b, i, h, hs, ha, hi, hb => by
    have hs' : P.length + S.length + T.length + Q.length + 1 ≤ 1000000000000000000 := by unfold Sm at hs; simp at hs; omega
    obtain ⟨A1, A2, e, h1, h2, h3⟩ := ins_ev _ S (T ++ Q) P y a b i i rfl (by simpa using hs) ha hi (by omega) (by omega)
    have hl : S.length = A1.length + A2.length := by rw [e]; simp
    obtain ⟨S', g1, g2, g3⟩ := l47_ev T (A1 ++ y :: A2) (S0 ++ [y]) P Q a b (i + 1) (SS.insert (e ▸ h) h1 h2) (by unfold Sm; simp; omega) ha (by simp; omega) (by simp at hb; omega)
    refine ⟨S', by simpa using g1, by rw [g2]; simp; omega, ?_⟩
    refine Ev.step (g := fun k => fact_Fact_47.l1 k (P ++ (S ++ y :: (T ++ Q))) a b i i) (h3 _ (g3.eq fun k => by simp)) fun k => ?_
    show fact_Fact_47.l0 (k + 1) _ _ _ _ = _
    simp only [fact_Fact_47.l0]
    rw [if_pos (by simp at hb; omega)]
    simp
theorem f47_ev (T P Q : List S55) (a b : Int) (hs : Sm (P ++ (T ++ Q)).length) (ha : a = P.length) (hb : b = a + T.length) :
    ∃ S', SS T S' ∧ S'.length = T.length ∧ Ev (fun k => fact_Fact_47.f k (P ++ (T ++ Q)) a b) (P ++ (S' ++ Q)) := by
  have hs' : P.length + T.length + Q.length ≤ 1000000000000000000 := by unfold Sm at hs; simp at hs; omega
  unfold fact_Fact_47.f
  simp only [w64 (n := a + 1) (by omega) (by omega)]
  cases T with
  | nil =>
    refine ⟨[], SS.refl List.Pairwise.nil, rfl, Ev.some fun k => ?_⟩
    simp only [fact_Fact_47.l0]
    rw [if_neg (by simp at hb; omega)]
  | cons x T =>
    obtain ⟨S', g1, g2, g3⟩ := l47_ev T [x] [x] P Q a b (a + 1) (SS.refl (List.pairwise_singleton _ _)) (by simpa using hs) ha (by simp; omega) (by simp at hb; omega)
    exact ⟨S', by simpa using g1, by rw [g2]; simp; omega, g3.eq fun k => by simp⟩
theorem rd28_app (P R : List S28) (x : S28) (i : Int) (hi : i = P.length) : rd_T28 (P ++ x :: R) i = x := by
  subst hi; simp [rd_T28, List.getD_eq_getElem?_getD]
def toT (x : S28) : S55 := ⟨⟨x.f0.f0, x.f0.f1, x.f0.f2, x.f0.f3, x.f0.f4⟩, x.f1⟩
def toO (x : S55) : S28 := ⟨⟨x.f0.f0, x.f0.f1, x.f0.f2, x.f0.f3, x.f0.f4⟩, x.f1⟩
theorem theirs_ev : ∀ (R P : List S28) (acc : List S55), (P ++ R).length ≤ 1000000 → R.length + acc.length ≤ 1000000 → Ev (fun k => comptrollerlaw09_Theirs.l0 k acc (P ++ R) (P ++ R).length P.length) (acc ++ R.map toT)
  | [], P, acc, h, h2 => by
    refine Ev.some fun k => ?_
    simp only [comptrollerlaw09_Theirs.l0]
    rw [if_neg (by simp)]
    simp
  | x :: R, P, acc, h, h2 => by
    have ih := theirs_ev R (P ++ [x]) (acc ++ [toT x]) (by simp at h ⊢; omega) (by simp at h2 ⊢; omega)
    have hl : (P ++ x :: R).length = P.length + R.length + 1 := by simp; omega
    rw [hl] at h
    simp only [List.length_cons] at h2
    refine Ev.step (g := fun k => comptrollerlaw09_Theirs.l0 k (acc ++ [toT x]) (P ++ x :: R) (P ++ x :: R).length ((P ++ [x]).length : Nat)) (by simpa using ih) fun k => ?_
    show comptrollerlaw09_Theirs.l0 (k + 1) _ _ _ _ = _
    simp only [comptrollerlaw09_Theirs.l0]
    rw [hl, if_pos (by omega), if_pos (by omega), if_pos (by omega), if_pos (by omega), w64 (n := (P.length : Int) + 1) (by omega) (by omega), rd28_app P R x _ rfl, show ((P ++ [x]).length : Int) = (P.length : Int) + 1 by simp]
    rfl
theorem Theirs_ev (l : List S28) (h : l.length ≤ 1000000) : Ev (fun k => comptrollerlaw09_Theirs.f k l) (l.map toT) := by
  simpa [comptrollerlaw09_Theirs.f] using theirs_ev l [] [] (by simpa using h) (by simpa using h)
theorem ours_ev : ∀ (R P : List S55) (acc : List S28), (P ++ R).length ≤ 1000000 → R.length + acc.length ≤ 1000000 → Ev (fun k => comptrollerlaw09_Ours.l0 k acc (P ++ R) (P ++ R).length P.length) (acc ++ R.map toO)
  | [], P, acc, h, h2 => by
    refine Ev.some fun k => ?_
    simp only [comptrollerlaw09_Ours.l0]
    rw [if_neg (by simp)]
    simp
  | x :: R, P, acc, h, h2 => by
    have ih := ours_ev R (P ++ [x]) (acc ++ [toO x]) (by simp at h ⊢; omega) (by simp at h2 ⊢; omega)
    have hl : (P ++ x :: R).length = P.length + R.length + 1 := by simp; omega
    rw [hl] at h
    simp only [List.length_cons] at h2
    refine Ev.step (g := fun k => comptrollerlaw09_Ours.l0 k (acc ++ [toO x]) (P ++ x :: R) (P ++ x :: R).length ((P ++ [x]).length : Nat)) (by simpa using ih) fun k => ?_
    show comptrollerlaw09_Ours.l0 (k + 1) _ _ _ _ = _
    simp only [comptrollerlaw09_Ours.l0]
    rw [hl, if_pos (by omega), if_pos (by omega), if_pos (by omega), if_pos (by omega), w64 (n := (P.length : Int) + 1) (by omega) (by omega), rd_app P R x _ rfl, show ((P ++ [x]).length : Int) = (P.length : Int) + 1 by simp]
    rfl
theorem Ours_ev (l : List S55) (h : l.length ≤ 1000000) : Ev (fun k => comptrollerlaw09_Ours.f k l) (l.map toO) := by
  simpa [comptrollerlaw09_Ours.f] using ours_ev l [] [] (by simpa using h) (by simpa using h)
theorem same_ev : ∀ (R P : List S28), (P ++ R).length ≤ 1000000 → Ev (fun k => comptrollerref09_Same.l0 k (P ++ R) (P ++ R) P.length) true
  | [], P, h => by
    refine Ev.some fun k => ?_
    simp only [comptrollerref09_Same.l0]
    rw [if_neg (by simp)]
  | x :: R, P, h => by
    have ih := same_ev R (P ++ [x]) (by simp at h ⊢; omega)
    have hl : (P ++ x :: R).length = P.length + R.length + 1 := by simp; omega
    rw [hl] at h
    refine Ev.step (g := fun k => comptrollerref09_Same.l0 k (P ++ x :: R) (P ++ x :: R) ((P ++ [x]).length : Nat)) (by simpa using ih) fun k => ?_
    show comptrollerref09_Same.l0 (k + 1) _ _ _ = _
    simp only [comptrollerref09_Same.l0]
    rw [hl, if_pos (by omega), if_pos (by omega), if_pos (by omega), if_neg (by simp), w64 (n := (P.length : Int) + 1) (by omega) (by omega), show ((P ++ [x]).length : Int) = (P.length : Int) + 1 by simp]
theorem Same_ev (l : List S28) (h : l.length ≤ 1000000) : Ev (fun k => comptrollerref09_Same.f k l l) true := by
  simpa [comptrollerref09_Same.f] using same_ev l [] (by simpa using h)
theorem right_ev : ∀ (R P : List S55), (P ++ R).length ≤ 2000 → Rise (P ++ R) → (∀ y ∈ P ++ R, y.f1 ≠ 0) → Ev (fun k => fact_Right.l0 k (P ++ R) (P ++ R) (P ++ R).length P.length) true
  | [], P, h, hr, hn => by
    refine Ev.some fun k => ?_
    simp only [fact_Right.l0]
    rw [if_neg (by simp)]
    simp at h
    simp; omega
  | x :: R, P, h, hr, hn => by
    have ih := right_ev R (P ++ [x]) (by simp at h ⊢; omega) (by simpa using hr) (by simpa using hn)
    have hl : (P ++ x :: R).length = P.length + R.length + 1 := by simp; omega
    rw [hl] at h
    have hx : ¬ x.f1 = 0 := hn x (by simp)
    have rx := rd_app P R x (P.length : Int) rfl
    by_cases hp : P.length = 0
    · refine Ev.step (g := fun k => fact_Right.l0 k (P ++ x :: R) (P ++ x :: R) (P ++ x :: R).length ((P ++ [x]).length : Nat)) (by simpa using ih) fun k => ?_
      show fact_Right.l0 (k + 1) _ _ _ _ = _
      simp only [fact_Right.l0]
      rw [hl, if_pos (by omega), if_pos (by omega), if_pos (by omega), rx, if_neg hx, if_neg (by omega), w64 (n := (P.length : Int) + 1) (by omega) (by omega), show ((P ++ [x]).length : Int) = (P.length : Int) + 1 by simp]
    · obtain ⟨P', z, rfl⟩ : ∃ P' z, P = P' ++ [z] := ⟨P.dropLast, P.getLast (by intro e; simp [e] at hp), (List.dropLast_concat_getLast _).symm⟩
      have rz : rd_T55 ((P' ++ [z]) ++ x :: R) (((P' ++ [z]).length : Int) - 1) = z := by
        rw [show (P' ++ [z]) ++ x :: R = P' ++ z :: (x :: R) by simp]; exact rd_app _ _ _ _ (by simp)
      have hlt : cmpK z.f0 x.f0 < 0 := (List.pairwise_append.1 hr).2.2 z (by simp) x (by simp)
      refine Ev.step (Ev.bind (g := fun k t => if t ≥ 0 then some false else fact_Right.l0 k ((P' ++ [z]) ++ x :: R) ((P' ++ [z]) ++ x :: R) ((P' ++ [z]) ++ x :: R).length (((P' ++ [z]) ++ [x]).length : Nat)) (cmp_ev z.f0 x.f0) ?_) fun k => ?_
      · have : ¬ cmpK z.f0 x.f0 ≥ 0 := by omega
        simp only [if_neg this]
        simpa using ih
      · show fact_Right.l0 (k + 1) _ _ _ _ = _
        simp only [fact_Right.l0]
        rw [hl, if_pos (by omega), if_pos (by omega), if_pos (by omega), rx, if_neg hx, if_pos (by omega), w64 (n := ((P' ++ [z]).length : Int) - 1) (by omega) (by omega), if_pos (by omega), if_pos (by omega), rz, w64 (n := ((P' ++ [z]).length : Int) + 1) (by omega) (by omega), show (((P' ++ [z]) ++ [x]).length : Int) = ((P' ++ [z]).length : Int) + 1 by simp; omega]
theorem Right_ev (l : List S55) (h : l.length ≤ 2000) (hr : Rise l) (hn : ∀ y ∈ l, y.f1 ≠ 0) : Ev (fun k => fact_Right.f k l) true := by
  simpa [fact_Right.f] using right_ev l [] (by simpa using h) hr hn
end Go.Proofs.Ytdckeflggcefbaa.Y
namespace Go.Proofs.Ytdckeflggcefbaa.Y
open Go.RowKit Go.Proofs.YtdckeflggcefbaaW.PrintWords Go.Proofs.YtdckeflggcefbaaW.PrintLast Go.Proofs.YtdckeflggcefbaaW.PrintMore
attribute [local go_sem] max2_int min2_int max_two min_two max_three min_three max_four min_four
set_option linter.unusedVariables false
set_option linter.unusedSimpArgs false

/-! ### cent_Add: function 28 -/
def cent_Add.f (a0 : Int) (a1 : Int) : Option (Int × Int) := if (Go.bits .and .i64 (Go.bits .xor .i64 a0 (wrap64 (a0 + a1))) (Go.bits .xor .i64 a1 (wrap64 (a0 + a1)))) < 0 then (some (0, 2)) else (some (wrap64 (a0 + a1), 0))
set_option maxHeartbeats 8000000 in
set_option maxRecDepth 100000 in
theorem cent_Add.calls (a0 : Int) (a1 : Int) (r1 : Int) (r2 : Int) (w : World) (h : cent_Add.f a0 a1 = some (r1, r2)) :
  Calls Try.prog 28 #[.int .i64 a0, .int .i64 a1] w fun e w' => e = .returned (.tuple #[.int .i64 r1, .int .i64 r2]) ∧ Drawn0 w w' := by
 have H : (if (Go.bits .and .i64 (Go.bits .xor .i64 a0 (wrap64 (a0 + a1))) (Go.bits .xor .i64 a1 (wrap64 (a0 + a1)))) < 0 then (some (0, 2)) else (some (wrap64 (a0 + a1), 0))) = some (r1, r2) := h
 clear h
 by_cases c3 : (Go.bits .and .i64 (Go.bits .xor .i64 a0 (wrap64 (a0 + a1))) (Go.bits .xor .i64 a1 (wrap64 (a0 + a1)))) < 0
 ·rw [if_pos c3] at H
  have c3b0 : decide ((Go.bits .and .i64 (Go.bits .xor .i64 a0 (wrap64 (a0 + a1))) (Go.bits .xor .i64 a1 (wrap64 (a0 + a1)))) < 0) = true := decide_eq_true c3
  clear c3
  simp only [Option.some.injEq, Prod.mk.injEq] at H
  obtain ⟨rfl, rfl⟩ := H
  go_enter Try.func28, Try.ntmps28
  go_wp2
  go_ret2
  exact ⟨by first | rfl | (simp; done) | (simp [*]; done), by repeat (first | exact Drawn0.refl _ | apply Drawn0.step)⟩
 ·rw [if_neg c3] at H
  have c3b0 : decide ((Go.bits .and .i64 (Go.bits .xor .i64 a0 (wrap64 (a0 + a1))) (Go.bits .xor .i64 a1 (wrap64 (a0 + a1)))) < 0) = false := decide_eq_false c3
  clear c3
  simp only [Option.some.injEq, Prod.mk.injEq] at H
  obtain ⟨rfl, rfl⟩ := H
  go_enter Try.func28, Try.ntmps28
  go_wp2
  go_ret2
  exact ⟨by first | rfl | (simp; done) | (simp [*]; done), by repeat (first | exact Drawn0.refl _ | apply Drawn0.step)⟩

end Go.Proofs.Ytdckeflggcefbaa.Y
namespace Go.Proofs.Ytdckeflggcefbaa.Y
open Go.RowKit
set_option linter.unusedVariables false
theorem wrap_toInt (v : BitVec 64) : IntKind.i64.wrap (v.toNat : Int) = v.toInt := by
  rw [BitVec.toInt_eq_toNat_cond]
  have := v.isLt
  simp only [IntKind.wrap, IntKind.bits, IntKind.signed]
  simp
  split <;> split <;> omega
theorem msb_ofInt (x : Int) (h1 : -9223372036854775808 ≤ x) (h2 : x ≤ 9223372036854775807) : (BitVec.ofInt 64 x).msb = decide (x < 0) := by
  rw [BitVec.msb_eq_toInt, BitVec.toInt_ofInt]
  congr 1
  simp only [Int.bmod]
  apply propext
  constructor <;> intro h <;> split at * <;> omega
theorem bits_and_neg (x y : Int) (h1 : -9223372036854775808 ≤ x) (h2 : x ≤ 9223372036854775807) (h3 : -9223372036854775808 ≤ y) (h4 : y ≤ 9223372036854775807) : Go.bits .and .i64 x y < 0 ↔ x < 0 ∧ y < 0 := by
  have e : Go.bits .and .i64 x y = (BitVec.ofInt 64 x &&& BitVec.ofInt 64 y).toInt := wrap_toInt _
  have m : (BitVec.ofInt 64 x &&& BitVec.ofInt 64 y).msb = (decide (x < 0) && decide (y < 0)) := by rw [BitVec.msb_and, msb_ofInt x h1 h2, msb_ofInt y h3 h4]
  rw [BitVec.msb_eq_toInt] at m
  rw [e]
  constructor
  · intro h
    rw [decide_eq_true h] at m
    simpa using m.symm
  · rintro ⟨ha, hb⟩
    rw [decide_eq_true ha, decide_eq_true hb] at m
    simpa using m
theorem bits_xor_neg (x y : Int) (h1 : -9223372036854775808 ≤ x) (h2 : x ≤ 9223372036854775807) (h3 : -9223372036854775808 ≤ y) (h4 : y ≤ 9223372036854775807) : (Go.bits .xor .i64 x y < 0 ↔ ¬ (x < 0 ↔ y < 0)) ∧ -9223372036854775808 ≤ Go.bits .xor .i64 x y ∧ Go.bits .xor .i64 x y ≤ 9223372036854775807 := by
  have e : Go.bits .xor .i64 x y = (BitVec.ofInt 64 x ^^^ BitVec.ofInt 64 y).toInt := wrap_toInt _
  have m : (BitVec.ofInt 64 x ^^^ BitVec.ofInt 64 y).msb = (decide (x < 0) ^^ decide (y < 0)) := by rw [BitVec.msb_xor, msb_ofInt x h1 h2, msb_ofInt y h3 h4]
  rw [BitVec.msb_eq_toInt] at m
  rw [e]
  have b1 := BitVec.toInt_lt (x := BitVec.ofInt 64 x ^^^ BitVec.ofInt 64 y)
  have b2 := BitVec.le_toInt (x := BitVec.ofInt 64 x ^^^ BitVec.ofInt 64 y)
  refine ⟨?_, by simpa using b2, by have := b1; simp at this; omega⟩
  by_cases ha : x < 0 <;> by_cases hb : y < 0 <;> simp [ha, hb] at m <;> simp [ha, hb] <;> omega
/-- An amount that fits a machine's whole number. -/
def Fit (x : Int) : Prop := -9223372036854775808 ≤ x ∧ x ≤ 9223372036854775807
theorem cent_fits (a b : Int) (ha : Fit a) (hb : Fit b) (hs : Fit (a + b)) : cent_Add.f a b = some (a + b, 0) := by
  unfold Fit at ha hb hs
  have e : wrap64 (a + b) = a + b := w64 (by omega) (by omega)
  obtain ⟨x1, x2, x3⟩ := bits_xor_neg a (a + b) ha.1 ha.2 hs.1 hs.2
  obtain ⟨y1, y2, y3⟩ := bits_xor_neg b (a + b) hb.1 hb.2 hs.1 hs.2
  unfold cent_Add.f
  rw [e, if_neg]
  rw [bits_and_neg _ _ x2 x3 y2 y3, x1, y1]
  omega
end Go.Proofs.Ytdckeflggcefbaa.Y
namespace Go.Proofs.Ytdckeflggcefbaa.Y
open Go.RowKit Go.Proofs.YtdckeflggcefbaaW.PrintWords Go.Proofs.YtdckeflggcefbaaW.PrintLast Go.Proofs.YtdckeflggcefbaaW.PrintMore
set_option linter.unusedVariables false
set_option linter.unusedSimpArgs false
theorem eqA44 (d : Nat) (w : World) (x0 y0 : ByteArray) (x1 y1 : ByteArray) (x2 y2 : ByteArray) (x3 y3 : ByteArray) (x4 y4 : Int) :
    (Op.equalIn (d + 2) 44 (.agg #[.string x0, .string x1, .string x2, .string x3, .int .i64 x4]) (.agg #[.string y0, .string y1, .string y2, .string y3, .int .i64 y4])).run Try.prog w = .ok (x0.toList == y0.toList && (x1.toList == y1.toList && (x2.toList == y2.toList && (x3.toList == y3.toList && (x4 == y4))))) w := by
  refine eqA_of Try.underlying44 (by kernel_rfl) ?_
  refine eqf_cons (by rfl) (by go_simp; rfl) (by go_simp; rfl) (by go_simp) ?_
  refine eqf_cons (by rfl) (by go_simp; rfl) (by go_simp; rfl) (by go_simp) ?_
  refine eqf_cons (by rfl) (by go_simp; rfl) (by go_simp; rfl) (by go_simp) ?_
  refine eqf_cons (by rfl) (by go_simp; rfl) (by go_simp; rfl) (by go_simp) ?_
  exact eqf_last (by rfl) (by go_simp; rfl) (by go_simp; rfl) (by go_simp)
/-- One key, as '==' tells it. -/
def sameKey (x y : S55) : Bool := x.f0.f0.toList == y.f0.f0.toList && (x.f0.f1.toList == y.f0.f1.toList && (x.f0.f2.toList == y.f0.f2.toList && (x.f0.f3.toList == y.f0.f3.toList && (x.f0.f4 == y.f0.f4))))
/-- How many facts of the first one's key stand at the begin. -/
def runLen : List S55 → Nat
  | [] => 0
  | x :: xs => 1 + (xs.takeWhile (fun y => sameKey y x)).length
theorem runLen_le (l : List S55) : runLen l ≤ l.length := by
  cases l with
  | nil => simp [runLen]
  | cons x xs => simp only [runLen, List.length_cons]; have := (List.takeWhile_sublist (l := xs) (fun y => sameKey y x)).length_le; omega
theorem runLen_pos {l : List S55} (h : l ≠ []) : 1 ≤ runLen l := by
  cases l with
  | nil => exact absurd rfl h
  | cons x xs => simp only [runLen]; omega
theorem takeWhile_at {α : Type} (p : α → Bool) : ∀ (xs : List α) (i : Nat), i < (xs.takeWhile p).length → ∃ y, xs[i]? = some y ∧ p y = true
  | [], i, h => by simp at h
  | x :: xs, i, h => by
    by_cases hp : p x = true
    · cases i with
      | zero => exact ⟨x, rfl, hp⟩
      | succ i => rw [List.takeWhile_cons_of_pos hp] at h; obtain ⟨y, h1, h2⟩ := takeWhile_at p xs i (by simpa using h); exact ⟨y, by simpa using h1, h2⟩
    · rw [List.takeWhile_cons_of_neg hp] at h; simp at h
theorem takeWhile_end {α : Type} (p : α → Bool) : ∀ (xs : List α) (y : α), xs[(xs.takeWhile p).length]? = some y → p y = false
  | [], y, h => by simp at h
  | x :: xs, y, h => by
    by_cases hp : p x = true
    · rw [List.takeWhile_cons_of_pos hp] at h; exact takeWhile_end p xs y (by simpa using h)
    · rw [List.takeWhile_cons_of_neg hp] at h
      have : x = y := by simpa using h
      subst this; simpa using hp
/-- Within the run the key is the first one's. -/
theorem runIn_ {l : List S55} {n : Nat} (h1 : 1 ≤ n) (h2 : n < runLen l) : n < l.length ∧ sameKey (rd_T55 l (n : Int)) (rd_T55 l 0) = true := by
  cases l with
  | nil => simp [runLen] at h2
  | cons x xs =>
    simp only [runLen] at h2
    obtain ⟨y, hy, hp⟩ := takeWhile_at (fun y => sameKey y x) xs (n - 1) (by omega)
    have hlt := (List.getElem?_eq_some_iff.1 hy).1
    refine ⟨by simp only [List.length_cons]; omega, ?_⟩
    obtain ⟨m, rfl⟩ : ∃ m, n = m + 1 := ⟨n - 1, by omega⟩
    simp only [rd_T55, Int.toNat_natCast, List.getD_eq_getElem?_getD, List.getElem?_cons_succ]
    simp only [Nat.add_sub_cancel] at hy
    rw [hy]; exact hp
/-- Right behind the run it is another one. -/
theorem run_end {l : List S55} (h : runLen l < l.length) : sameKey (rd_T55 l (runLen l : Int)) (rd_T55 l 0) = false := by
  cases l with
  | nil => simp at h
  | cons x xs =>
    simp only [runLen, List.length_cons] at h ⊢
    have hlt : (xs.takeWhile (fun y => sameKey y x)).length < xs.length := by omega
    have := takeWhile_end (fun y => sameKey y x) xs _ (List.getElem?_eq_getElem hlt)
    rw [show (((1 + (xs.takeWhile (fun y => sameKey y x)).length : Nat)) : Int) = (((xs.takeWhile (fun y => sameKey y x)).length + 1 : Nat) : Int) by omega]
    simp only [rd_T55, Int.toNat_natCast, List.getD_eq_getElem?_getD, List.getElem?_cons_succ]
    rw [List.getElem?_eq_getElem hlt]
    exact this
attribute [local go_sem high] eqA44
theorem info29 : (Try.prog.info? 55).isSome = true := by kernel_rfl
set_option maxHeartbeats 1000000 in
/-- fact.runs: the argument is boxed; the function value captures the box. -/
theorem runs_in (n : Nat) (A : Option Addr) (m c : Nat) (w : World) :
    CallsIn Fence.wide n Try.prog 35 #[.slice A m c] w fun e w' => e = .returned (.func (.func 44) #[] #[.pointer (some ⟨w.heap.size, 0, none⟩)]) ∧ w' = w.alloc (.cells #[.slice A m c] 29) := by
  refine callsIn_of_wp Try.func35 rfl trivial ?_
  simp only [Try.ntmps35, List.size_toArray, List.length_cons, List.length_nil, Nat.reduceAdd, Nat.reduceSub, Array.replicate_succ, Array.replicate_zero, List.push_toArray, List.append_toArray, List.nil_append, List.cons_append]
  gi_wp2
  go_ret
  exact ⟨rfl, rfl⟩
set_option maxHeartbeats 4000000 in
set_option maxRecDepth 100000 in
/-- The iterator's own text. Jm cur rest: the box holds cur, of which rest is still to come; Jx: a round has said 'no more'. -/
theorem runs1_in (n : Nat) (hn : 1 ≤ n) (l Bn gs : Nat) (Jm : List S55 → List S55 → World → Prop) (Jx : World → Prop)
    (hcell : ∀ cur rest W, Jm cur rest W → ∃ A c, W.cell? ⟨Bn, 0, none⟩ = some (.slice A cur.length c) ∧ W.frozen? ⟨Bn, 0, none⟩ = false ∧ cur.length ≤ c ∧ c ≤ 9223372036854775807 ∧ Kd.C k55 W A cur.length cur ∧ (∀ ad, A = some ad → ad.block = gs))
    (hdrew : ∀ cur rest W m, Jm cur rest W → Jm cur rest (W.drewN m))
    (hset : ∀ cur rest W A c, Jm cur rest W → Kd.C k55 W A rest.length rest → rest.length ≤ c → c ≤ 9223372036854775807 → (∀ ad, A = some ad → ad.block = gs) → Jm rest rest (W.setCell ⟨Bn, 0, none⟩ (.slice A rest.length c)))
    (hY : ∀ cur W A c, Jm cur cur W → cur ≠ [] → W.cell? ⟨Bn, 0, none⟩ = some (.slice A cur.length c) → Kd.C k55 W A cur.length cur → cur.length ≤ c → YieldAt Fence.wide (n - 1) Try.prog l #[.slice A (runLen cur) c] W fun e W' =>
      (e = .returned (.bool true) ∧ Jm cur (cur.drop (runLen cur)) W') ∨ (e = .returned (.bool false) ∧ Jx W'))
    (xs : List S55) (W : World) (h0 : Jm xs xs W) :
    CallsIn Fence.wide n Try.prog 44 #[.func (.yield l) #[] #[], .pointer (some ⟨Bn, 0, none⟩)] W fun e W' => (∃ v, e = .returned v) ∧ (Jm [] [] W' ∨ Jx W') := by
  have HCELL := Aside0.mk hcell
  have HDREW := Aside0.mk hdrew
  have HSET := Aside0.mk hset
  have HY := Aside0.mk hY
  have H0 := Aside0.mk h0
  clear hcell hdrew hset hY h0
  refine callsIn_of_wp Try.func44 rfl trivial ?_
  simp only [Try.ntmps44, List.size_toArray, List.length_cons, List.length_nil, Nat.reduceAdd, Nat.reduceSub, Array.replicate_succ, Array.replicate_zero, List.push_toArray, List.append_toArray, List.nil_append, List.cons_append]
  gi_wp2
  gi_loopg [] xs.length (fun g wr => ∃ cur, Aside0 (cur.length ≤ g) ∧ Aside0 (Jm cur cur wr))
  case atStart => exact ⟨xs, ⟨Nat.le_refl _⟩, H0⟩
  case round =>
    obtain ⟨cur, HL, HJ⟩ := hrel
    obtain ⟨A, c, hc, hf, hle, hcm, hC, hAx⟩ := HCELL.out cur cur wr HJ.out
    clear hAx
    have HC := Aside0.mk hC
    have HLE := Aside0.mk hle
    have HCM := Aside0.mk hcm
    clear hC hle hcm
    by_cases hcur : cur = []
    · subst hcur
      simp only [List.length_nil] at hc
      gi_wp2
      go_end0
      exact ⟨⟨_, rfl⟩, .inl HJ.out⟩
    · have hpos : decide (0 < cur.length) = true := decide_eq_true (List.length_pos_iff.2 hcur)
      have hpos1 : 0 < cur.length := List.length_pos_iff.2 hcur
      have HCUR := Aside0.mk hcur
      clear hcur
      obtain ⟨g0, HG0⟩ : ∃ g0, Aside0 (gk = g0) := ⟨_, ⟨rfl⟩⟩
      gi_wp2
      gi_loopg [3] (runLen cur) (fun g v wr2 => ∃ (m q : Nat), v = .int .i64 m ∧ Aside0 (1 ≤ m) ∧ Aside0 (m ≤ runLen cur) ∧ Aside0 (runLen cur - m ≤ g) ∧ Aside0 (wr2 = wr.drewN q))
      case atStart => exact ⟨1, 0, by go_num, ⟨Nat.le_refl _⟩, ⟨runLen_pos HCUR.out⟩, ⟨Nat.sub_le _ _⟩, ⟨rfl⟩⟩
      case round =>
        obtain ⟨m, q, rfl, HM1, HM2, HG, HW⟩ := hrel
        obtain rfl := HW.out
        clear HW
        have hcq : (wr.drewN q).cell? ⟨Bn, 0, none⟩ = some (.slice A cur.length c) := hc
        have hfq : (wr.drewN q).frozen? ⟨Bn, 0, none⟩ = false := hf
        have HCQ := Aside0.mk (show Kd.C k55 (wr.drewN q) A cur.length cur from HC.out)
        by_cases hm : m < runLen cur
        · obtain ⟨hlt, hs⟩ := runIn_ HM1.out hm
          obtain ⟨ad, e1, x0, x1, x2, x3, x4, _⟩ := at_T55 HCQ.out (m : Int) (by omega) (by omega)
          subst e1
          obtain ⟨ad', e2, y0, y1, y2, y3, y4, _⟩ := at_T55 HCQ.out 0 (by omega) (by omega)
          obtain rfl : ad = ad' := by injection e2
          clear e2
          have HM := Aside0.mk hm
          simp only [sameKey, Bool.and_eq_true] at hs
          obtain ⟨s0, s1, s2, s3, s4⟩ := hs
          have hg1 : decide (m < cur.length) = true := decide_eq_true hlt
          have hg2 : decide ((m : Int) < (cur.length : Int)) = true := decide_eq_true (by omega)
          have hg3 : (0 : Int) ≤ (m : Int) := by omega
          have hg4 : (0 : Int) < (cur.length : Int) := by omega
          clear hm
          simp only [Int.toNat_natCast, Int.toNat_zero, Nat.zero_mul, Addr.add_zero'] at x0 x1 x2 x3 x4 y0 y1 y2 y3 y4
          have hu44 := Try.underlying44
          have hu55 := Try.underlying55
          have hmb : (m : Int) + 1 ≤ 9223372036854775807 := by have := HCM.out; have := HLE.out; omega
          obtain ⟨wq, hwq⟩ : ∃ wq, wr.drewN q = wq := ⟨_, rfl⟩
          have HWQ := Aside0.mk hwq
          rw [hwq] at hcq hfq HCQ x0 x1 x2 x3 x4 y0 y1 y2 y3 y4 ⊢
          clear hc hf hwq
          gi_wp2
          gi_quiet (fail)
          gi_wp2
          gi_roundg (runLen cur - (m + 1))
          case measure => have := HG.out; have := HM.out; omega
          case rel => exact ⟨m + 1, q + nq, by go_num, ⟨by omega⟩, ⟨HM.out⟩, ⟨Nat.le_refl _⟩, ⟨by rw [← HWQ.out, World.drewN_drewN]⟩⟩
        · obtain rfl : m = runLen cur := by have := HM2.out; omega
          clear HM1 HM2 HG hm
          have hrb : (runLen cur : Int) + 1 ≤ 9223372036854775807 ∨ True := .inr trivial
          clear hrb
          obtain ⟨ad, e1, _⟩ := HCQ.out.2.2 hpos1
          subst e1
          obtain ⟨i55, hi55, hz55⟩ := Option.map_eq_some_iff.1 info55
          have HI := Aside0.mk hi55
          have HI6 := Aside0.mk (show i55.size = 6 from by simp only [Prod.mk.injEq] at hz55; exact hz55.2.1)
          clear hi55 hz55
          have hu44 := Try.underlying44
          have hu55 := Try.underlying55
          have HJQ := Aside0.mk (HDREW.out _ _ _ q HJ.out)
          have hmc : runLen cur ≤ c := Nat.le_trans (runLen_le cur) HLE.out
          have hmc' : (0 : Int) ≤ (runLen cur : Int) := by omega
          obtain ⟨wq, hwq⟩ : ∃ wq, wr.drewN q = wq := ⟨_, rfl⟩
          by_cases hlt : runLen cur < cur.length
          · have hs := run_end hlt
            simp only [sameKey] at hs
            obtain ⟨ad1, e1, x0, x1, x2, x3, x4, _⟩ := at_T55 HCQ.out (runLen cur : Int) (by omega) (by omega)
            obtain rfl : ad = ad1 := by injection e1
            obtain ⟨ad', e2, y0, y1, y2, y3, y4, _⟩ := at_T55 HCQ.out 0 (by omega) (by omega)
            obtain rfl : ad = ad' := by injection e2
            clear e1 e2
            have hg1 : decide (runLen cur < cur.length) = true := decide_eq_true hlt
            have hg2 : decide ((runLen cur : Int) < (cur.length : Int)) = true := decide_eq_true (by omega)
            have hg3 : (0 : Int) ≤ (runLen cur : Int) := by omega
            have hg4 : (0 : Int) < (cur.length : Int) := by omega
            simp only [Int.toNat_natCast, Int.toNat_zero, Nat.zero_mul, Addr.add_zero'] at x0 x1 x2 x3 x4 y0 y1 y2 y3 y4
            rw [hwq] at hcq hfq HCQ HJQ x0 x1 x2 x3 x4 y0 y1 y2 y3 y4 ⊢
            clear hc hf hwq
            gi_wp2
            gi_quiet (fail)
            clear x0 x1 x2 x3 x4 y0 y1 y2 y3 y4
            obtain ⟨fn, tmps, assign, body, hy, hR⟩ := HY.out cur (wq.drewN nq) (some ad) c (HDREW.out _ _ _ _ HJQ.out) HCUR.out hcq HCQ.out HLE.out
            gi_wp2
            refine hR.mono ?_
            rintro e W3 (⟨rfl, hJ3⟩ | ⟨rfl, hJx3⟩)
            · obtain ⟨A3, c3, hc3, hf3, hle3, hcm3, hC3, hA3⟩ := HCELL.out _ _ W3 hJ3
              obtain ⟨ad3, e3, _⟩ := hC3.2.2 hpos1
              subst e3
              have hn3 : runLen cur ≤ cur.length := runLen_le cur
              have cutf := cut_from (P := Try.prog) 29 55 .i64 Try.underlying29 HI.out 6 HI6.out (some ad3) cur.length c3 (runLen cur) (by omega) (by omega)
              have hC4 := Kd.C_drop (m := runLen cur) (c := c3) hC3 hn3 hle3
              have hJ4 := HSET.out _ _ W3 _ (c3 - runLen cur) hJ3 hC4 (by simp only [List.length_drop]; omega) (by omega) (fun ad_ e_ => by
                split at e_
                · exact hA3 _ e_
                · cases e_; rw [← hA3 ad3 rfl]; simp only [Addr.add]; split <;> rfl)
              simp only [Int.toNat_natCast] at cutf
              rw [List.length_drop, show k55.sz = 6 from rfl] at hJ4
              have HJa := Aside0.mk (show c3 = runLen cur → Jm (cur.drop (runLen cur)) (cur.drop (runLen cur)) (W3.setCell ⟨Bn, 0, none⟩ (.slice (some ad3) (cur.length - runLen cur) 0)) from fun e => by rw [if_pos e, e, Nat.sub_self] at hJ4; exact hJ4)
              have HJb := Aside0.mk (show ¬ c3 = runLen cur → Jm (cur.drop (runLen cur)) (cur.drop (runLen cur)) (W3.setCell ⟨Bn, 0, none⟩ (.slice (some (ad3.add (runLen cur * 6))) (cur.length - runLen cur) (c3 - runLen cur))) from fun e => by rw [if_neg e] at hJ4; exact hJ4)
              have HN3 := Aside0.mk hn3
              have HL1 := Aside0.mk (show (cur.drop (runLen cur)).length ≤ g0 - 1 ∧ 1 ≤ g0 from by have := HL.out; have := HG0.out; have := runLen_pos HCUR.out; simp only [List.length_drop]; omega)
              clear hJ4 hC4 hC3 hJ3 hn3 hle3 hcm3 hA3 HJQ
              gi_wp2
              all_goals
                gi_roundg (g0 - 1)
                case measure => have := HG0.out; have := HL1.out; omega
                case rel => exact ⟨cur.drop (runLen cur), ⟨HL1.out.1⟩, ⟨by first | exact HJa.out (by assumption) | exact HJb.out (by assumption)⟩⟩
            · gi_wp2
              refine bodyPost_ret (results_none rfl _ _ _) rfl ?_
              exact ⟨⟨_, rfl⟩, .inr hJx3⟩
          · have hg1 : decide (runLen cur < cur.length) = false := decide_eq_false hlt
            have hg2 : decide ((runLen cur : Int) < (cur.length : Int)) = false := decide_eq_false (by omega)
            rw [hwq] at hcq hfq HCQ HJQ ⊢
            clear hc hf hwq
            gi_wp2
            gi_quiet (fail)
            obtain ⟨fn, tmps, assign, body, hy, hR⟩ := HY.out cur (wq.drewN nq) (some ad) c (HDREW.out _ _ _ _ HJQ.out) HCUR.out hcq HCQ.out HLE.out
            gi_wp2
            refine hR.mono ?_
            rintro e W3 (⟨rfl, hJ3⟩ | ⟨rfl, hJx3⟩)
            · obtain ⟨A3, c3, hc3, hf3, hle3, hcm3, hC3, hA3⟩ := HCELL.out _ _ W3 hJ3
              obtain ⟨ad3, e3, _⟩ := hC3.2.2 hpos1
              subst e3
              have hn3 : runLen cur ≤ cur.length := runLen_le cur
              have cutf := cut_from (P := Try.prog) 29 55 .i64 Try.underlying29 HI.out 6 HI6.out (some ad3) cur.length c3 (runLen cur) (by omega) (by omega)
              have hC4 := Kd.C_drop (m := runLen cur) (c := c3) hC3 hn3 hle3
              have hJ4 := HSET.out _ _ W3 _ (c3 - runLen cur) hJ3 hC4 (by simp only [List.length_drop]; omega) (by omega) (fun ad_ e_ => by
                split at e_
                · exact hA3 _ e_
                · cases e_; rw [← hA3 ad3 rfl]; simp only [Addr.add]; split <;> rfl)
              simp only [Int.toNat_natCast] at cutf
              rw [List.length_drop, show k55.sz = 6 from rfl] at hJ4
              have HJa := Aside0.mk (show c3 = runLen cur → Jm (cur.drop (runLen cur)) (cur.drop (runLen cur)) (W3.setCell ⟨Bn, 0, none⟩ (.slice (some ad3) (cur.length - runLen cur) 0)) from fun e => by rw [if_pos e, e, Nat.sub_self] at hJ4; exact hJ4)
              have HJb := Aside0.mk (show ¬ c3 = runLen cur → Jm (cur.drop (runLen cur)) (cur.drop (runLen cur)) (W3.setCell ⟨Bn, 0, none⟩ (.slice (some (ad3.add (runLen cur * 6))) (cur.length - runLen cur) (c3 - runLen cur))) from fun e => by rw [if_neg e] at hJ4; exact hJ4)
              have HN3 := Aside0.mk hn3
              have HL1 := Aside0.mk (show (cur.drop (runLen cur)).length ≤ g0 - 1 ∧ 1 ≤ g0 from by have := HL.out; have := HG0.out; have := runLen_pos HCUR.out; simp only [List.length_drop]; omega)
              clear hJ4 hC4 hC3 hJ3 hn3 hle3 hcm3 hA3 HJQ
              gi_wp2
              all_goals
                gi_roundg (g0 - 1)
                case measure => have := HG0.out; have := HL1.out; omega
                case rel => exact ⟨cur.drop (runLen cur), ⟨HL1.out.1⟩, ⟨by first | exact HJa.out (by assumption) | exact HJb.out (by assumption)⟩⟩
            · gi_wp2
              refine bodyPost_ret (results_none rfl _ _ _) rfl ?_
              exact ⟨⟨_, rfl⟩, .inr hJx3⟩
def fact_Clone.f (l0 : List S55) : Option (List S55) := if l0.length < 1759218604441 then some l0 else none
set_option maxHeartbeats 8000000 in
set_option maxRecDepth 100000 in
theorem fact_Clone.calls (A0 : Option Addr) (c0 : Nat) (l0 : List (S55)) (r : List (S55)) (w : World) (hr0 : Kd.C k55 w A0 l0.length l0) (hc0 : l0.length ≤ c0) (h : fact_Clone.f l0 = some r) :
    Calls Try.prog 32 #[.slice A0 l0.length c0] w fun e w' => ∃ v0_ : Value, e = .returned (v0_) ∧ Kd.R k55 55 w' w.heap.size (fun _ => True) v0_ r ∧ Below w.heap.size w w' := by
  have HR0 := Aside0.mk hr0
  have HC0 := Aside0.mk hc0
  have H : (if l0.length < 1759218604441 then some l0 else none) = some r := h
  clear h
  by_cases c1 : l0.length < 1759218604441
  case neg => rw [if_neg c1] at H; exact absurd H (by simp)
  rw [if_pos c1] at H
  obtain rfl := Option.some.inj H
  clear H
  have LM := Aside0.mk c1
  clear c1
  have q29 : ∀ (w : World) (a : Option Addr) (n c n' c' : Nat), (binOp .eql 29 (.slice a n c) (.slice none n' c')).run Try.prog w = .ok (.bool a.isNone) w := fun w a n c n' c' => Lib.run_eql_slice_nil w _ _ a n c n' c' Try.underlying29
  cases A0 with
  | none =>
    obtain rfl : l0 = [] := by
      cases l0 with
      | nil => rfl
      | cons x xs => obtain ⟨ad, e, _⟩ := hr0.2.2 (by simp); cases e
    clear hr0 hc0
    go_enter Try.func32, Try.ntmps32
    go_wp2
    go_ret
    exact ⟨_, rfl, Kd.R_nil _ _ _ _ _, Below.refl _ _⟩
  | some ad =>
    clear hr0 hc0
    have HB := Aside0.mk (Below.refl w.heap.size w)
    go_enter Try.func32, Try.ntmps32
    go_wp2_with (first | ((with_reducible refine gate_dst (N := 5) rfl ?_); refine Kd.R_lit k55 _ 55 ?hg (N := 5) ?hd (xs := ([] : List (S55))) (inner := []) (ok := fun _ => True) (okp := fun _ => True) ?hr ?hp (fun _ hk => hk) trivial (Below.refl _ _) (Nat.le_refl _) (by simp) ?_; (case hd => rfl); (case hg => rfl); (case hr => first | (go_simp; done) | (go_simp; rfl)); (case hp => exact (Reps.none _ _)); intro v269 w6 ho7 hb hg_ hnew_; clear hg_ hnew_; have n0_ := Aside0.mk (Kd.R_lower ho7 (below_size (by repeat (first | (with_reducible first | exact HB.out | apply below_alloc | apply pw_below_drewN | apply below_drew1) | exact HB.out)))); have n1_ := Aside0.mk (below_step (by repeat (first | (with_reducible first | exact HB.out | apply below_alloc | apply pw_below_drewN | apply below_drew1) | exact HB.out)) hb); clear HB; have HO270 := n0_; have HB := n1_; clear n0_ n1_; clear hb ho7) | ((with_reducible refine gate_builtin (b := .append) (xs := #[.tmp 5, .tmp 6]) rfl ?_); at_builtin; refine Kd.R_append_rows k55 (w0 := w) w.heap.size rfl (.tmp 5) (.tmp 6) 29 55 (.agg #[(.string ⟨#[]⟩), (.string ⟨#[]⟩), (.string ⟨#[]⟩), (.string ⟨#[]⟩), (.int .i64 0), (.int .i64 0)]) 80 rfl Try.underlying29 info55 rfl (by decide) (by omega) v269 [] l0 _ _ _ (fun _ => True) (fun _ => False) rfl rfl ?aO ?aR (fun _ _ h => h) (fun _ h => h.elim) ?aF ?aB ?aS ?aL ?_; (case aR => repeat (first | exact (Kd.C_below HR0.out HB.out) | (with_reducible refine Kd.C_alloc ?_ _) | (with_reducible refine Kd.C_drewN ?_ _) | (with_reducible refine Kd.C_drew ?_))); (case aB => exact (by repeat (first | (with_reducible first | exact HB.out | apply below_alloc | apply pw_below_drewN | apply below_drew1) | exact HB.out))); (case aF => exact (fun _ _ => trivial)); (case aO => exact (by (with_reducible repeat (first | apply Kd.R_alloc | apply Kd.R_drewN | apply Kd.R_drew)); exact HO270.out)); (case aS => exact (below_size (by repeat (first | (with_reducible first | exact HB.out | apply below_alloc | apply pw_below_drewN | apply below_drew1) | exact HB.out)))); (case aL => have := LM.out; simp; omega); intro v272 w8 ho hb hg hat; have n0_ := Aside0.mk (hb); have n1_ := Aside0.mk (ho); clear HB; clear HO270; have HB := n0_; have HO273 := n1_; clear n0_ n1_; clear ho hb hg hat))
    go_ret
    exact ⟨_, rfl, by simpa using Kd.R_mono HO273.out (fun _ hk => trivial), HB.out⟩
end Go.Proofs.Ytdckeflggcefbaa.Y
namespace Go.Proofs.Ytdckeflggcefbaa.Y
open Go.RowKit Go.Proofs.YtdckeflggcefbaaW.PrintWords Go.Proofs.YtdckeflggcefbaaW.PrintLast Go.Proofs.YtdckeflggcefbaaW.PrintMore
attribute [local go_sem] max2_int min2_int max_two min_two max_three min_three max_four min_four
set_option linter.unusedVariables false
set_option linter.unusedSimpArgs false

/-! ### fact_Fact_48: function 48 -/
mutual
def fact_Fact_48.l0 : Nat → List (S55) → Int → Int → Int → Option ((List (S55)))
 | 0, _, _, _, _ => none
 | k + 1, x0, x1, x10, x11 => if x10 < x11 then (if 0 ≤ (wrap64 ((IntKind.u64.wrap (wrap64 (x10 + x11))) / 2)) then (if (wrap64 ((IntKind.u64.wrap (wrap64 (x10 + x11))) / 2)) < (x0.length : Int) then (if 0 ≤ x1 then (if x1 < (x0.length : Int) then ((fact_Of_1.f k ((rd_T55 x0 (wrap64 ((IntKind.u64.wrap (wrap64 (x10 + x11))) / 2))).f0.f0) ((rd_T55 x0 (wrap64 ((IntKind.u64.wrap (wrap64 (x10 + x11))) / 2))).f0.f1) ((rd_T55 x0 (wrap64 ((IntKind.u64.wrap (wrap64 (x10 + x11))) / 2))).f0.f2) ((rd_T55 x0 (wrap64 ((IntKind.u64.wrap (wrap64 (x10 + x11))) / 2))).f0.f3) ((rd_T55 x0 (wrap64 ((IntKind.u64.wrap (wrap64 (x10 + x11))) / 2))).f0.f4) ((rd_T55 x0 (wrap64 ((IntKind.u64.wrap (wrap64 (x10 + x11))) / 2))).f1) ((rd_T55 x0 x1).f0.f0) ((rd_T55 x0 x1).f0.f1) ((rd_T55 x0 x1).f0.f2) ((rd_T55 x0 x1).f0.f3) ((rd_T55 x0 x1).f0.f4) ((rd_T55 x0 x1).f1)).bind fun t137 => (if t137 < 0 then (fact_Fact_48.l0 k x0 x1 (wrap64 ((wrap64 ((IntKind.u64.wrap (wrap64 (x10 + x11))) / 2)) + 1)) x11) else (fact_Fact_48.l0 k x0 x1 x10 (wrap64 ((IntKind.u64.wrap (wrap64 (x10 + x11))) / 2))))) else (none)) else (none)) else (none)) else (none)) else (fact_Fact_48.l1 k x0 x10 x1)
def fact_Fact_48.l1 : Nat → List (S55) → Int → Int → Option ((List (S55)))
 | 0, _, _, _ => none
 | k + 1, x0, x10, x13 => if x13 < (wrap64 (x10 - 1)) then (if 0 ≤ (wrap64 (x13 + 1)) then (if (wrap64 (x13 + 1)) < (x0.length : Int) then (if 0 ≤ x13 then (if x13 < (x0.length : Int) then (fact_Fact_48.l1 k ((x0.set (x13 : Int).toNat (⟨(⟨(rd_T55 x0 (wrap64 (x13 + 1))).f0.f0, (rd_T55 x0 (wrap64 (x13 + 1))).f0.f1, (rd_T55 x0 (wrap64 (x13 + 1))).f0.f2, (rd_T55 x0 (wrap64 (x13 + 1))).f0.f3, (rd_T55 x0 (wrap64 (x13 + 1))).f0.f4⟩ : S44), (rd_T55 x0 (wrap64 (x13 + 1))).f1⟩ : S55)).set ((wrap64 (x13 + 1)) : Int).toNat (⟨(⟨(rd_T55 x0 x13).f0.f0, (rd_T55 x0 x13).f0.f1, (rd_T55 x0 x13).f0.f2, (rd_T55 x0 x13).f0.f3, (rd_T55 x0 x13).f0.f4⟩ : S44), (rd_T55 x0 x13).f1⟩ : S55)) x10 (wrap64 (x13 + 1))) else (none)) else (none)) else (none)) else (none)) else (some x0)
def fact_Fact_48.l2 : Nat → List (S55) → Int → Int → Int → Option ((List (S55)))
 | 0, _, _, _, _ => none
 | k + 1, x0, x2, x14, x15 => if x14 < x15 then (if 0 ≤ x2 then (if x2 < (x0.length : Int) then (if 0 ≤ (wrap64 ((IntKind.u64.wrap (wrap64 (x14 + x15))) / 2)) then (if (wrap64 ((IntKind.u64.wrap (wrap64 (x14 + x15))) / 2)) < (x0.length : Int) then ((fact_Of_1.f k ((rd_T55 x0 x2).f0.f0) ((rd_T55 x0 x2).f0.f1) ((rd_T55 x0 x2).f0.f2) ((rd_T55 x0 x2).f0.f3) ((rd_T55 x0 x2).f0.f4) ((rd_T55 x0 x2).f1) ((rd_T55 x0 (wrap64 ((IntKind.u64.wrap (wrap64 (x14 + x15))) / 2))).f0.f0) ((rd_T55 x0 (wrap64 ((IntKind.u64.wrap (wrap64 (x14 + x15))) / 2))).f0.f1) ((rd_T55 x0 (wrap64 ((IntKind.u64.wrap (wrap64 (x14 + x15))) / 2))).f0.f2) ((rd_T55 x0 (wrap64 ((IntKind.u64.wrap (wrap64 (x14 + x15))) / 2))).f0.f3) ((rd_T55 x0 (wrap64 ((IntKind.u64.wrap (wrap64 (x14 + x15))) / 2))).f0.f4) ((rd_T55 x0 (wrap64 ((IntKind.u64.wrap (wrap64 (x14 + x15))) / 2))).f1)).bind fun t144 => (if t144 < 0 then (fact_Fact_48.l2 k x0 x2 x14 (wrap64 ((IntKind.u64.wrap (wrap64 (x14 + x15))) / 2))) else (fact_Fact_48.l2 k x0 x2 (wrap64 ((wrap64 ((IntKind.u64.wrap (wrap64 (x14 + x15))) / 2)) + 1)) x15))) else (none)) else (none)) else (none)) else (none)) else (fact_Fact_48.l3 k x0 x14 x2)
def fact_Fact_48.l3 : Nat → List (S55) → Int → Int → Option ((List (S55)))
 | 0, _, _, _ => none
 | k + 1, x0, x14, x17 => if x17 > x14 then (if 0 ≤ (wrap64 (x17 - 1)) then (if (wrap64 (x17 - 1)) < (x0.length : Int) then (if 0 ≤ x17 then (if x17 < (x0.length : Int) then (fact_Fact_48.l3 k ((x0.set (x17 : Int).toNat (⟨(⟨(rd_T55 x0 (wrap64 (x17 - 1))).f0.f0, (rd_T55 x0 (wrap64 (x17 - 1))).f0.f1, (rd_T55 x0 (wrap64 (x17 - 1))).f0.f2, (rd_T55 x0 (wrap64 (x17 - 1))).f0.f3, (rd_T55 x0 (wrap64 (x17 - 1))).f0.f4⟩ : S44), (rd_T55 x0 (wrap64 (x17 - 1))).f1⟩ : S55)).set ((wrap64 (x17 - 1)) : Int).toNat (⟨(⟨(rd_T55 x0 x17).f0.f0, (rd_T55 x0 x17).f0.f1, (rd_T55 x0 x17).f0.f2, (rd_T55 x0 x17).f0.f3, (rd_T55 x0 x17).f0.f4⟩ : S44), (rd_T55 x0 x17).f1⟩ : S55)) x14 (wrap64 (x17 - 1))) else (none)) else (none)) else (none)) else (none)) else (some x0)
def fact_Fact_48.j4 : Nat → List (S55) → Int → Int → Int → Int → Int → Int → Int → Option ((List (S55)))
 | 0, _, _, _, _, _, _, _, _ => none
 | k + 1, x0, x1, x2, x3, x18, x19, x20, x21 => fact_Fact_48.l4 k x0 x1 x2 x3 x18 x19 x20 x21 (wrap64 (x19 - 1))
def fact_Fact_48.l4 : Nat → List (S55) → Int → Int → Int → Int → Int → Int → Int → Int → Option ((List (S55)))
 | 0, _, _, _, _, _, _, _, _, _ => none
 | k + 1, x0, x1, x2, x3, x18, x19, x20, x21, x22 => if x20 < x21 then (if 0 ≤ (wrap64 (x22 - (wrap64 ((IntKind.u64.wrap (wrap64 (x20 + x21))) / 2)))) then (if (wrap64 (x22 - (wrap64 ((IntKind.u64.wrap (wrap64 (x20 + x21))) / 2)))) < (x0.length : Int) then (if 0 ≤ (wrap64 ((IntKind.u64.wrap (wrap64 (x20 + x21))) / 2)) then (if (wrap64 ((IntKind.u64.wrap (wrap64 (x20 + x21))) / 2)) < (x0.length : Int) then ((fact_Of_1.f k ((rd_T55 x0 (wrap64 (x22 - (wrap64 ((IntKind.u64.wrap (wrap64 (x20 + x21))) / 2))))).f0.f0) ((rd_T55 x0 (wrap64 (x22 - (wrap64 ((IntKind.u64.wrap (wrap64 (x20 + x21))) / 2))))).f0.f1) ((rd_T55 x0 (wrap64 (x22 - (wrap64 ((IntKind.u64.wrap (wrap64 (x20 + x21))) / 2))))).f0.f2) ((rd_T55 x0 (wrap64 (x22 - (wrap64 ((IntKind.u64.wrap (wrap64 (x20 + x21))) / 2))))).f0.f3) ((rd_T55 x0 (wrap64 (x22 - (wrap64 ((IntKind.u64.wrap (wrap64 (x20 + x21))) / 2))))).f0.f4) ((rd_T55 x0 (wrap64 (x22 - (wrap64 ((IntKind.u64.wrap (wrap64 (x20 + x21))) / 2))))).f1) ((rd_T55 x0 (wrap64 ((IntKind.u64.wrap (wrap64 (x20 + x21))) / 2))).f0.f0) ((rd_T55 x0 (wrap64 ((IntKind.u64.wrap (wrap64 (x20 + x21))) / 2))).f0.f1) ((rd_T55 x0 (wrap64 ((IntKind.u64.wrap (wrap64 (x20 + x21))) / 2))).f0.f2) ((rd_T55 x0 (wrap64 ((IntKind.u64.wrap (wrap64 (x20 + x21))) / 2))).f0.f3) ((rd_T55 x0 (wrap64 ((IntKind.u64.wrap (wrap64 (x20 + x21))) / 2))).f0.f4) ((rd_T55 x0 (wrap64 ((IntKind.u64.wrap (wrap64 (x20 + x21))) / 2))).f1)).bind fun t151 => (if t151 < 0 then (fact_Fact_48.l4 k x0 x1 x2 x3 x18 x19 x20 (wrap64 ((IntKind.u64.wrap (wrap64 (x20 + x21))) / 2)) x22) else (fact_Fact_48.l4 k x0 x1 x2 x3 x18 x19 (wrap64 ((wrap64 ((IntKind.u64.wrap (wrap64 (x20 + x21))) / 2)) + 1)) x21 x22))) else (none)) else (none)) else (none)) else (none)) else (if x20 < x2 then (fact_Fact_48.j6 k x0 x1 x2 x3 x18 x20 (wrap64 (x19 - x20)) (decide (x2 < (wrap64 (x19 - x20))))) else (fact_Fact_48.j6 k x0 x1 x2 x3 x18 x20 (wrap64 (x19 - x20)) false))
def fact_Fact_48.j6 : Nat → List (S55) → Int → Int → Int → Int → Int → Int → Bool → Option ((List (S55)))
 | 0, _, _, _, _, _, _, _, _ => none
 | k + 1, x0, x1, x2, x3, x18, x20, x24, x185 => if x185 = true then ((fact_Fact_50.f k x0 x20 x2 x24).bind fun t152 => (fact_Fact_48.j7 k t152 x1 x3 x18 x20 x24)) else (fact_Fact_48.j7 k x0 x1 x3 x18 x20 x24)
def fact_Fact_48.j7 : Nat → List (S55) → Int → Int → Int → Int → Int → Option ((List (S55)))
 | 0, _, _, _, _, _, _ => none
 | k + 1, x0, x1, x3, x18, x20, x24 => if x1 < x20 then (fact_Fact_48.j8 k x0 x1 x3 x18 x20 x24 (decide (x20 < x18))) else (fact_Fact_48.j8 k x0 x1 x3 x18 x20 x24 false)
def fact_Fact_48.j8 : Nat → List (S55) → Int → Int → Int → Int → Int → Bool → Option ((List (S55)))
 | 0, _, _, _, _, _, _, _ => none
 | k + 1, x0, x1, x3, x18, x20, x24, x199 => if x199 = true then ((fact_Fact_48.f k x0 x1 x20 x18).bind fun t153 => (if x18 < x24 then (if x24 < x3 then ((fact_Fact_48.f k t153 x18 x24 x3).bind fun t154 => (some t154)) else (some t153)) else (some t153))) else (if x18 < x24 then (if x24 < x3 then ((fact_Fact_48.f k x0 x18 x24 x3).bind fun t155 => (some t155)) else (some x0)) else (some x0))
def fact_Fact_48.f : Nat → List (S55) → Int → Int → Int → Option ((List (S55)))
 | 0, _, _, _, _ => none
 | k + 1, l0, a1, a2, a3 => if (wrap64 (a2 - a1)) = 1 then (fact_Fact_48.l0 k l0 a1 a2 a3) else (if (wrap64 (a3 - a2)) = 1 then (fact_Fact_48.l2 k l0 a2 a1 a2) else (if a2 > (wrap64 ((IntKind.u64.wrap (wrap64 (a1 + a3))) / 2)) then (fact_Fact_48.j4 k l0 a1 a2 a3 (wrap64 ((IntKind.u64.wrap (wrap64 (a1 + a3))) / 2)) (wrap64 ((wrap64 ((IntKind.u64.wrap (wrap64 (a1 + a3))) / 2)) + a2)) (wrap64 ((wrap64 ((wrap64 ((IntKind.u64.wrap (wrap64 (a1 + a3))) / 2)) + a2)) - a3)) (wrap64 ((IntKind.u64.wrap (wrap64 (a1 + a3))) / 2))) else (fact_Fact_48.j4 k l0 a1 a2 a3 (wrap64 ((IntKind.u64.wrap (wrap64 (a1 + a3))) / 2)) (wrap64 ((wrap64 ((IntKind.u64.wrap (wrap64 (a1 + a3))) / 2)) + a2)) a1 a2)))
end
theorem fact_Fact_48.mono_l : ∀ k, (∀ y0 y1 y2 y3, LeO (fact_Fact_48.f k y0 y1 y2 y3) (fact_Fact_48.f (k + 1) y0 y1 y2 y3)) ∧ (∀ y0 y1 y2 y3, LeO (fact_Fact_48.l0 k y0 y1 y2 y3) (fact_Fact_48.l0 (k + 1) y0 y1 y2 y3)) ∧ (∀ y0 y1 y2, LeO (fact_Fact_48.l1 k y0 y1 y2) (fact_Fact_48.l1 (k + 1) y0 y1 y2)) ∧ (∀ y0 y1 y2 y3, LeO (fact_Fact_48.l2 k y0 y1 y2 y3) (fact_Fact_48.l2 (k + 1) y0 y1 y2 y3)) ∧ (∀ y0 y1 y2, LeO (fact_Fact_48.l3 k y0 y1 y2) (fact_Fact_48.l3 (k + 1) y0 y1 y2)) ∧ (∀ y0 y1 y2 y3 y4 y5 y6 y7, LeO (fact_Fact_48.j4 k y0 y1 y2 y3 y4 y5 y6 y7) (fact_Fact_48.j4 (k + 1) y0 y1 y2 y3 y4 y5 y6 y7)) ∧ (∀ y0 y1 y2 y3 y4 y5 y6 y7 y8, LeO (fact_Fact_48.l4 k y0 y1 y2 y3 y4 y5 y6 y7 y8) (fact_Fact_48.l4 (k + 1) y0 y1 y2 y3 y4 y5 y6 y7 y8)) ∧ (∀ y0 y1 y2 y3 y4 y5 y6 y7, LeO (fact_Fact_48.j6 k y0 y1 y2 y3 y4 y5 y6 y7) (fact_Fact_48.j6 (k + 1) y0 y1 y2 y3 y4 y5 y6 y7)) ∧ (∀ y0 y1 y2 y3 y4 y5, LeO (fact_Fact_48.j7 k y0 y1 y2 y3 y4 y5) (fact_Fact_48.j7 (k + 1) y0 y1 y2 y3 y4 y5)) ∧ (∀ y0 y1 y2 y3 y4 y5 y6, LeO (fact_Fact_48.j8 k y0 y1 y2 y3 y4 y5 y6) (fact_Fact_48.j8 (k + 1) y0 y1 y2 y3 y4 y5 y6))
 | 0 => ⟨fun _ _ _ _ r h => by simp [fact_Fact_48.f] at h, fun _ _ _ _ r h => by simp [fact_Fact_48.l0] at h, fun _ _ _ r h => by simp [fact_Fact_48.l1] at h, fun _ _ _ _ r h => by simp [fact_Fact_48.l2] at h, fun _ _ _ r h => by simp [fact_Fact_48.l3] at h, fun _ _ _ _ _ _ _ _ r h => by simp [fact_Fact_48.j4] at h, fun _ _ _ _ _ _ _ _ _ r h => by simp [fact_Fact_48.l4] at h, fun _ _ _ _ _ _ _ _ r h => by simp [fact_Fact_48.j6] at h, fun _ _ _ _ _ _ r h => by simp [fact_Fact_48.j7] at h, fun _ _ _ _ _ _ _ r h => by simp [fact_Fact_48.j8] at h⟩
 | k + 1 => by
  obtain ⟨ih0, ih1, ih2, ih3, ih4, ih5, ih6, ih7, ih8, ih9⟩ := fact_Fact_48.mono_l k
  refine ⟨?_, ?_, ?_, ?_, ?_, ?_, ?_, ?_, ?_, ?_⟩
  ·intro y0 y1 y2 y3
   unfold fact_Fact_48.f
   with_reducible repeat' first | apply ih0 | apply ih1 | apply ih2 | apply ih3 | apply ih4 | apply ih5 | apply ih6 | apply ih7 | apply ih8 | apply ih9 | apply fact_Fact_50.mono | apply fact_Of_1.mono | refine LeO.refl _ | refine LeO.none _ | refine LeO.ite ?_ ?_ | refine LeO.bind ?_ (fun _ => ?_)
  ·intro y0 y1 y2 y3
   unfold fact_Fact_48.l0
   with_reducible repeat' first | apply ih0 | apply ih1 | apply ih2 | apply ih3 | apply ih4 | apply ih5 | apply ih6 | apply ih7 | apply ih8 | apply ih9 | apply fact_Fact_50.mono | apply fact_Of_1.mono | refine LeO.refl _ | refine LeO.none _ | refine LeO.ite ?_ ?_ | refine LeO.bind ?_ (fun _ => ?_)
  ·intro y0 y1 y2
   unfold fact_Fact_48.l1
   with_reducible repeat' first | apply ih0 | apply ih1 | apply ih2 | apply ih3 | apply ih4 | apply ih5 | apply ih6 | apply ih7 | apply ih8 | apply ih9 | apply fact_Fact_50.mono | apply fact_Of_1.mono | refine LeO.refl _ | refine LeO.none _ | refine LeO.ite ?_ ?_ | refine LeO.bind ?_ (fun _ => ?_)
  ·intro y0 y1 y2 y3
   unfold fact_Fact_48.l2
   with_reducible repeat' first | apply ih0 | apply ih1 | apply ih2 | apply ih3 | apply ih4 | apply ih5 | apply ih6 | apply ih7 | apply ih8 | apply ih9 | apply fact_Fact_50.mono | apply fact_Of_1.mono | refine LeO.refl _ | refine LeO.none _ | refine LeO.ite ?_ ?_ | refine LeO.bind ?_ (fun _ => ?_)
  ·intro y0 y1 y2
   unfold fact_Fact_48.l3
   with_reducible repeat' first | apply ih0 | apply ih1 | apply ih2 | apply ih3 | apply ih4 | apply ih5 | apply ih6 | apply ih7 | apply ih8 | apply ih9 | apply fact_Fact_50.mono | apply fact_Of_1.mono | refine LeO.refl _ | refine LeO.none _ | refine LeO.ite ?_ ?_ | refine LeO.bind ?_ (fun _ => ?_)
  ·intro y0 y1 y2 y3 y4 y5 y6 y7
   unfold fact_Fact_48.j4
   with_reducible repeat' first | apply ih0 | apply ih1 | apply ih2 | apply ih3 | apply ih4 | apply ih5 | apply ih6 | apply ih7 | apply ih8 | apply ih9 | apply fact_Fact_50.mono | apply fact_Of_1.mono | refine LeO.refl _ | refine LeO.none _ | refine LeO.ite ?_ ?_ | refine LeO.bind ?_ (fun _ => ?_)
  ·intro y0 y1 y2 y3 y4 y5 y6 y7 y8
   unfold fact_Fact_48.l4
   with_reducible repeat' first | apply ih0 | apply ih1 | apply ih2 | apply ih3 | apply ih4 | apply ih5 | apply ih6 | apply ih7 | apply ih8 | apply ih9 | apply fact_Fact_50.mono | apply fact_Of_1.mono | refine LeO.refl _ | refine LeO.none _ | refine LeO.ite ?_ ?_ | refine LeO.bind ?_ (fun _ => ?_)
  ·intro y0 y1 y2 y3 y4 y5 y6 y7
   unfold fact_Fact_48.j6
   with_reducible repeat' first | apply ih0 | apply ih1 | apply ih2 | apply ih3 | apply ih4 | apply ih5 | apply ih6 | apply ih7 | apply ih8 | apply ih9 | apply fact_Fact_50.mono | apply fact_Of_1.mono | refine LeO.refl _ | refine LeO.none _ | refine LeO.ite ?_ ?_ | refine LeO.bind ?_ (fun _ => ?_)
  ·intro y0 y1 y2 y3 y4 y5
   unfold fact_Fact_48.j7
   with_reducible repeat' first | apply ih0 | apply ih1 | apply ih2 | apply ih3 | apply ih4 | apply ih5 | apply ih6 | apply ih7 | apply ih8 | apply ih9 | apply fact_Fact_50.mono | apply fact_Of_1.mono | refine LeO.refl _ | refine LeO.none _ | refine LeO.ite ?_ ?_ | refine LeO.bind ?_ (fun _ => ?_)
  ·intro y0 y1 y2 y3 y4 y5 y6
   unfold fact_Fact_48.j8
   with_reducible repeat' first | apply ih0 | apply ih1 | apply ih2 | apply ih3 | apply ih4 | apply ih5 | apply ih6 | apply ih7 | apply ih8 | apply ih9 | apply fact_Fact_50.mono | apply fact_Of_1.mono | refine LeO.refl _ | refine LeO.none _ | refine LeO.ite ?_ ?_ | refine LeO.bind ?_ (fun _ => ?_)
theorem fact_Fact_48.mono : ∀ a0 a1 a2 a3 k, LeO (fact_Fact_48.f k a0 a1 a2 a3) (fact_Fact_48.f (k + 1) a0 a1 a2 a3) := by
 intro a0 a1 a2 a3 k
 obtain ⟨ih0, ih1, ih2, ih3, ih4, ih5, ih6, ih7, ih8, ih9⟩ := fact_Fact_48.mono_l k
 exact ih0 a0 a1 a2 a3
def fact_Fact_48.T5 : Bool × List (List Nat × List Nat) := (true, [([], []), ([], []), ([], []), ([1, 2], [1, 2]), ([3], [3]), ([], []), ([], []), ([5, 6], [5, 6]), ([7], [7]), ([0, 4, 8], [0, 4, 8]), ([9], [9])])
def fact_Fact_48.B5 : List Nat := [0, 0, 0, 6, 14, 0, 0, 96, 224, 511, 1023]
theorem fact_Fact_48.tab5 : rtab .any (opsOf Try.f48 5) = fact_Fact_48.T5 := by kernel_rfl
theorem fact_Fact_48.bits5 : waitsOk fact_Fact_48.T5.2 fact_Fact_48.B5 = true := by kernel_rfl
def fact_Fact_48.T11 : Bool × List (List Nat × List Nat) := (true, [([], []), ([], []), ([], []), ([], []), ([3], [3]), ([], []), ([], []), ([6], [6]), ([5, 7], [5, 7]), ([8], [8]), ([], []), ([], []), ([10, 11], [10, 11]), ([12], [12]), ([0, 1, 0, 1, 5, 6, 7, 8, 9, 13], [0, 1]), ([14, 9, 0, 1, 5, 6, 7, 8, 9, 13], [9, 14]), ([2, 4, 0, 1, 2, 3, 4, 5, 6, 7, 8, 9, 10, 11, 12, 13, 14, 15], [2, 4]), ([16, 13, 15, 0, 1, 2, 3, 4, 5, 6, 7, 8, 9, 10, 11, 12, 13, 14, 15], [13, 16])])
def fact_Fact_48.B11 : List Nat := [0, 0, 0, 0, 8, 0, 0, 64, 224, 480, 0, 0, 3072, 7168, 16355, 32739, 65535, 131071]
theorem fact_Fact_48.tab11 : rtab .any (opsOf Try.f48 11) = fact_Fact_48.T11 := by kernel_rfl
theorem fact_Fact_48.bits11 : waitsOk fact_Fact_48.T11.2 fact_Fact_48.B11 = true := by kernel_rfl
def fact_Fact_48.T17 : Bool × List (List Nat × List Nat) := (true, [([], []), ([], []), ([], []), ([1, 2], [1, 2]), ([3], [3]), ([], []), ([], []), ([5, 6], [5, 6]), ([7], [7]), ([0, 4, 8], [0, 4, 8]), ([9], [9]), ([10], [10])])
def fact_Fact_48.B17 : List Nat := [0, 0, 0, 6, 14, 0, 0, 96, 224, 511, 1023, 2047]
theorem fact_Fact_48.tab17 : rtab .any (opsOf Try.f48 17) = fact_Fact_48.T17 := by kernel_rfl
theorem fact_Fact_48.bits17 : waitsOk fact_Fact_48.T17.2 fact_Fact_48.B17 = true := by kernel_rfl
def fact_Fact_48.T23 : Bool × List (List Nat × List Nat) := (true, [([], []), ([], []), ([], []), ([], []), ([3], [3]), ([], []), ([], []), ([6], [6]), ([5, 7], [5, 7]), ([8], [8]), ([], []), ([], []), ([10, 11], [10, 11]), ([12], [12]), ([0, 1, 0, 1, 5, 6, 7, 8, 9, 13], [0, 1]), ([14, 9, 0, 1, 5, 6, 7, 8, 9, 13], [9, 14]), ([2, 4, 0, 1, 2, 3, 4, 5, 6, 7, 8, 9, 10, 11, 12, 13, 14, 15], [2, 4]), ([16, 13, 15, 0, 1, 2, 3, 4, 5, 6, 7, 8, 9, 10, 11, 12, 13, 14, 15], [13, 16])])
def fact_Fact_48.B23 : List Nat := [0, 0, 0, 0, 8, 0, 0, 64, 224, 480, 0, 0, 3072, 7168, 16355, 32739, 65535, 131071]
theorem fact_Fact_48.tab23 : rtab .any (opsOf Try.f48 23) = fact_Fact_48.T23 := by kernel_rfl
theorem fact_Fact_48.bits23 : waitsOk fact_Fact_48.T23.2 fact_Fact_48.B23 = true := by kernel_rfl
def fact_Fact_48.T35 : Bool × List (List Nat × List Nat) := (true, [([], []), ([], []), ([], []), ([], []), ([2, 3], [2, 3]), ([1, 4], [1, 4]), ([5], [5]), ([], []), ([], []), ([7, 8], [7, 8]), ([9], [9]), ([0, 6, 10], [0, 6, 10]), ([11], [11]), ([12], [12])])
def fact_Fact_48.B35 : List Nat := [0, 0, 0, 0, 12, 30, 62, 0, 0, 384, 896, 2047, 4095, 8191]
theorem fact_Fact_48.tab35 : rtab .any (opsOf Try.f48 35) = fact_Fact_48.T35 := by kernel_rfl
theorem fact_Fact_48.bits35 : waitsOk fact_Fact_48.T35.2 fact_Fact_48.B35 = true := by kernel_rfl
/-- What is said of function 48 with so many rounds. -/
abbrev fact_Fact_48.Said (k : Nat) : Prop := ∀ (P0_ : Nat → Prop) (u9000_ : Value) (l0 : List (S55)) (a1 : Int) (a2 : Int) (a3 : Int)  (r : List (S55)) (w0 w : World) (hB : Below w0.heap.size w0 w) (ho0 : Kd.R k55 55 w w0.heap.size P0_ u9000_ l0) (h : fact_Fact_48.f k l0 a1 a2 a3 = some r), Calls Try.prog 48 #[u9000_, .int .i64 a1, .int .i64 a2, .int .i64 a3, .func (.func 34) #[] #[]] w fun e w' => e = .returned (.tuple #[]) ∧ Kd.R k55 55 w' w0.heap.size (fun k_ => (P0_ k_ ∨ w.heap.size ≤ k_)) u9000_ r ∧ Below w0.heap.size w0 w' ∧ Kept w w' (fun k_ => P0_ k_)
end Go.Proofs.Ytdckeflggcefbaa.Y
