/- Plain Lean functions with the answers of the program's functions, and proofs that the machine's calls come to them; lines written by a program for this claim. The library's slices.Grow at the nil slice of facts: an empty row of the call's own. Its conditions: the room that is asked for is not negative, and its bytes fit the machine. What the law's own small functions answer. Plain Lean. The law by which fact.Of's loop over its runs is walked: one round, once. Its conditions: what is said of one round and of what follows. append(v, x) inside a loop over an iterator: the words' own law for it, with a fence. No conditions beyond those it names. fact.Of: it answers what its plain function says. Its conditions: those of the plain function. fact.Add of two cubes. Plain Lean. What Few and small say. Plain Lean. No conditions. -/
import Derived.WalkSpells
import Derived.RangeFuncNested
import Derived.Maps.OwnIn
import Derived.Test.YtdckeflggcefbaaO1
import Derived.Test.YtdckeflggcefbaaO4
import Derived.Test.YtdckeflggcefbaaO8
namespace Go.Proofs.Ytdckeflggcefbaa.Y
open Go.RowKit Go.Proofs.YtdckeflggcefbaaW.PrintWords Go.Proofs.YtdckeflggcefbaaW.PrintLast Go.Proofs.YtdckeflggcefbaaW.PrintMore
attribute [local go_sem] max2_int min2_int max_two min_two max_three min_three max_four min_four   -- for this text's walks alone
set_option linter.unusedVariables false
set_option linter.unusedSimpArgs false

/-! ### fact_Right: function 22 -/
def fact_Right.l0 : Nat → List (S55) → List (S55) → Int → Int → Option (Bool)
 | 0, _, _, _, _ => none
 | k + 1, x0, x5, x6, x7 => if x7 < x6 then (if 0 ≤ x7 then (if x7 < (x5.length : Int) then (if ((rd_T55 x5 x7).f1) = 0 then (some false) else (if x7 > 0 then (if 0 ≤ (wrap64 (x7 - 1)) then (if (wrap64 (x7 - 1)) < (x0.length : Int) then ((fact_Cmp.f k ((rd_T55 x0 (wrap64 (x7 - 1))).f0.f0) ((rd_T55 x0 (wrap64 (x7 - 1))).f0.f1) ((rd_T55 x0 (wrap64 (x7 - 1))).f0.f2) ((rd_T55 x0 (wrap64 (x7 - 1))).f0.f3) ((rd_T55 x0 (wrap64 (x7 - 1))).f0.f4) ((rd_T55 x5 x7).f0.f0) ((rd_T55 x5 x7).f0.f1) ((rd_T55 x5 x7).f0.f2) ((rd_T55 x5 x7).f0.f3) ((rd_T55 x5 x7).f0.f4)).bind fun t207 => (if t207 ≥ 0 then (some false) else (fact_Right.l0 k x0 x5 x6 (wrap64 (x7 + 1))))) else (none)) else (none)) else (fact_Right.l0 k x0 x5 x6 (wrap64 (x7 + 1))))) else (none)) else (none)) else (some (decide ((x0.length : Int) ≤ 2000)))
def fact_Right.f (k : Nat) (l0 : List (S55)) : Option (Bool) := fact_Right.l0 k l0 l0 (l0.length : Int) 0
theorem fact_Right.mono_l : ∀ k, (∀ y0 y1 y2 y3, LeO (fact_Right.l0 k y0 y1 y2 y3) (fact_Right.l0 (k + 1) y0 y1 y2 y3))
 | 0 => fun _ _ _ _ r h => by simp [fact_Right.l0] at h
 | k + 1 => by
  have ih0 := fact_Right.mono_l k
  ·intro y0 y1 y2 y3
   unfold fact_Right.l0
   repeat' first
   | (with_reducible exact ih0 _ _ _ _)
   | (with_reducible exact fact_Cmp.mono _ _ _ _ _ _ _ _ _ _ _)
   | (with_reducible exact LeO.refl _)
   | (with_reducible exact LeO.none _)
   | (with_reducible refine LeO.ite ?_ ?_)
   | (with_reducible refine LeO.bind ?_ (fun _ => ?_))
   | exact ih0 _ _ _ _
   | exact fact_Cmp.mono _ _ _ _ _ _ _ _ _ _ _
   | exact LeO.none _
   | refine LeO.ite ?_ ?_
   | refine LeO.bind ?_ (fun _ => ?_)
theorem fact_Right.mono : ∀ a0 k, LeO (fact_Right.f k a0) (fact_Right.f (k + 1) a0) := by
 intro a0 k
 have ih0 := fact_Right.mono_l k
 unfold fact_Right.f
 repeat' first
   | (with_reducible exact ih0 _ _ _ _)
   | (with_reducible exact fact_Cmp.mono _ _ _ _ _ _ _ _ _ _ _)
   | (with_reducible exact LeO.refl _)
   | (with_reducible exact LeO.none _)
   | (with_reducible refine LeO.ite ?_ ?_)
   | (with_reducible refine LeO.bind ?_ (fun _ => ?_))
   | exact ih0 _ _ _ _
   | exact fact_Cmp.mono _ _ _ _ _ _ _ _ _ _ _
   | exact LeO.none _
   | refine LeO.ite ?_ ?_
   | refine LeO.bind ?_ (fun _ => ?_)
def fact_Right.T4 : Bool × List (List Nat × List Nat) := (true, [([], []), ([0], [0]), ([1], [1]), ([2], [2]), ([3], [3]), ([4, 3], [3, 4]), ([5, 3, 3], [3, 5]), ([6], [6]), ([6], [6]), ([8, 6], [6, 8]), ([7, 9, 6], [6, 7, 9]), ([10, 6], [6, 10]), ([11, 6], [6, 11]), ([6], [6]), ([13, 6], [6, 13]), ([12, 14, 6, 6], [6, 12, 14]), ([15, 6], [6, 15]), ([6, 16, 3], [3, 6, 16]), ([3, 17], [3, 17])])
def fact_Right.B4 : List Nat := [0, 1, 3, 7, 15, 31, 63, 127, 127, 383, 1023, 2047, 4095, 127, 8319, 32767, 65535, 131071, 262143]
theorem fact_Right.tab4 : rtab .any (opsOf Try.f22 4) = fact_Right.T4 := by kernel_rfl
theorem fact_Right.bits4 : waitsOk fact_Right.T4.2 fact_Right.B4 = true := by kernel_rfl
set_option maxHeartbeats 8000000 in
set_option maxRecDepth 100000 in
theorem fact_Right.calls (k : Nat) (A0 : Option Addr) (c0 : Nat) (l0 : List (S55)) (r : Bool) (w : World) (hr0 : Kd.C k55 w A0 l0.length l0) (hc0 : l0.length ≤ c0) (h : fact_Right.f k l0 = some r) :
  Calls Try.prog 22 #[.slice A0 l0.length c0] w fun e w' => e = .returned (.bool r) ∧ Below w.heap.size w w' := by
 have hu55 := Try.underlying55
 have hu44 := Try.underlying44
 have HR0 := Aside0.mk hr0
 have HC0 := Aside0.mk hc0
 clear hr0 hc0
 have HB := Aside0.mk (Below.refl w.heap.size w)
 have H : (fact_Right.l0 k l0 l0 (l0.length : Int) 0) = some r := h
 clear h
 have H' := Aside0.mk H
 clear H
 go_enter Try.func22, Try.ntmps22
 go_wp2
 go_loopg [7] k (fun kq v7 w' => ∃ (x7_1 : Int), v7 = .int .i64 x7_1 ∧ Aside0 (fact_Right.l0 kq l0 l0 (l0.length : Int) x7_1 = some r) ∧ Aside0 (kq ≤ k) ∧ Aside0 (Below w.heap.size w w'))
 case atStart => exact ⟨(0), rs_, H', ⟨Nat.le_refl _⟩, ⟨bw⟩⟩
 case round =>
  clear H'
  obtain ⟨x7_1, rfl, HA, HK1, HB⟩ := hrel
  cases gk with
  | zero => exact absurd HA.out (by simp [fact_Right.l0])
  | succ k1 =>
   have H := HA.out
   clear HA
   simp only [fact_Right.l0] at H
   by_cases c2 : x7_1 < (l0.length : Int)
   ·rw [if_pos c2] at H
    have c2b0 : decide (x7_1 < (l0.length : Int)) = true := decide_eq_true c2
    clear c2
    by_cases c3 : 0 ≤ x7_1
    ·rw [if_pos c3] at H
     have c3b0 : decide (0 ≤ x7_1) = true := decide_eq_true c3
     clear c3
     by_cases c4 : x7_1 < (l0.length : Int)
     ·rw [if_pos c4] at H
      have c4b0 : decide (x7_1 < (l0.length : Int)) = true := decide_eq_true c4
      clear c4
      by_cases c5 : ((rd_T55 l0 x7_1).f1) = 0
      ·rw [if_pos c5] at H
       have c5b0 : (((rd_T55 l0 x7_1).f1) == 0) = true := beq_iff_eq.mpr c5
       have c5b1 : (((rd_T55 l0 x7_1).f1) != 0) = false := bne_eq_false_iff_eq.mpr c5
       clear c5
       obtain rfl := Option.some.inj H
       have p204 : 0 ≤ (x7_1 : Int) := of_decide_eq_true as_
       have q204 : x7_1 < (l0.length : Int) := of_decide_eq_true as_
       obtain ⟨ad204, e204, hx204_0, hx204_1, hx204_2, hx204_3, hx204_4, hx204_5⟩ := at_T55 HR0.out x7_1 p204 q204
       cases e204
       replace hx204_0 := cb HB hx204_0
       replace hx204_1 := cb HB hx204_1
       replace hx204_2 := cb HB hx204_2
       replace hx204_3 := cb HB hx204_3
       replace hx204_4 := cb HB hx204_4
       replace hx204_5 := cb HB hx204_5
       replace p204 := eq_true p204
       replace q204 := eq_true q204
       try go_wp2_with (first | ((with_reducible refine gate_dst (N := 4) rfl ?_); refine box_event ?hg (N := 4) ?hd (cs := #[.string (⟨#[]⟩ : ByteArray), .string (⟨#[]⟩ : ByteArray), .string (⟨#[]⟩ : ByteArray), .string (⟨#[]⟩ : ByteArray), .int .i64 0, .int .i64 0]) (t := 55) ?hr ?_; (case hd => rfl); (case hg => rfl); (case hr => first | (go_simp; done) | (go_simp; rfl)); intro gb205 hg w6 hbox hb; have n0_ := Aside0.mk (below_step bw hb); have n1_ := Aside0.mk (hbox); have n2_ := Aside0.mk ((by rw [hg]; exact (below_size bw) : w.heap.size ≤ gb205)); have n3_ := Aside0.mk ((by rw [hg]; exact (below_size bw) : w.heap.size ≤ gb205)); clear HB; have HB := n0_; have BK205 := n1_; have GW205 := n2_; have GE205 := n3_; clear n0_ n1_ n2_ n3_; clear hb hbox hg; have hcz7_0 : w6.cell? ⟨gb205, 0, none⟩ = some (.string (⟨#[]⟩ : ByteArray)) := (blk_cell BK205.out 0).trans rfl; have hcz7_1 : w6.cell? ⟨gb205, 1, none⟩ = some (.string (⟨#[]⟩ : ByteArray)) := (blk_cell BK205.out 1).trans rfl; have hcz7_2 : w6.cell? ⟨gb205, 2, none⟩ = some (.string (⟨#[]⟩ : ByteArray)) := (blk_cell BK205.out 2).trans rfl; have hcz7_3 : w6.cell? ⟨gb205, 3, none⟩ = some (.string (⟨#[]⟩ : ByteArray)) := (blk_cell BK205.out 3).trans rfl; have hcz7_4 : w6.cell? ⟨gb205, 4, none⟩ = some (.int .i64 0) := (blk_cell BK205.out 4).trans rfl; have hcz7_5 : w6.cell? ⟨gb205, 5, none⟩ = some (.int .i64 0) := (blk_cell BK205.out 5).trans rfl; have hfz7_0 := blk_frozen BK205.out 0; have hfz7_1 := blk_frozen BK205.out 1; have hfz7_2 := blk_frozen BK205.out 2; have hfz7_3 := blk_frozen BK205.out 3; have hfz7_4 := blk_frozen BK205.out 4; have hfz7_5 := blk_frozen BK205.out 5))
       have n0_ : Aside0 (((((((w6.setCell ⟨gb205, 0, none⟩ (.string ((rd_T55 l0 x7_1).f0.f0))).setCell ⟨gb205, 1, none⟩ (.string ((rd_T55 l0 x7_1).f0.f1))).setCell ⟨gb205, 2, none⟩ (.string ((rd_T55 l0 x7_1).f0.f2))).setCell ⟨gb205, 3, none⟩ (.string ((rd_T55 l0 x7_1).f0.f3))).setCell ⟨gb205, 4, none⟩ (.int .i64 ((rd_T55 l0 x7_1).f0.f4))).setCell ⟨gb205, 5, none⟩ (.int .i64 ((rd_T55 l0 x7_1).f1))).heap[gb205]? = some (.cells #[.string ((rd_T55 l0 x7_1).f0.f0), .string ((rd_T55 l0 x7_1).f0.f1), .string ((rd_T55 l0 x7_1).f0.f2), .string ((rd_T55 l0 x7_1).f0.f3), .int .i64 ((rd_T55 l0 x7_1).f0.f4), .int .i64 ((rd_T55 l0 x7_1).f1)] 55 (0, 0))) := ⟨by (with_reducible repeat (first | refine blk_drewN ?_ _ | refine blk_drew ?_ | refine blk_alloc ?_ _)); refine blk_put (cs := #[.string ((rd_T55 l0 x7_1).f0.f0), .string ((rd_T55 l0 x7_1).f0.f1), .string ((rd_T55 l0 x7_1).f0.f2), .string ((rd_T55 l0 x7_1).f0.f3), .int .i64 ((rd_T55 l0 x7_1).f0.f4), .int .i64 0]) ?_ 5 _ rfl; (with_reducible repeat (first | refine blk_drewN ?_ _ | refine blk_drew ?_ | refine blk_alloc ?_ _)); refine blk_put (cs := #[.string ((rd_T55 l0 x7_1).f0.f0), .string ((rd_T55 l0 x7_1).f0.f1), .string ((rd_T55 l0 x7_1).f0.f2), .string ((rd_T55 l0 x7_1).f0.f3), .int .i64 0, .int .i64 0]) ?_ 4 _ rfl; (with_reducible repeat (first | refine blk_drewN ?_ _ | refine blk_drew ?_ | refine blk_alloc ?_ _)); refine blk_put (cs := #[.string ((rd_T55 l0 x7_1).f0.f0), .string ((rd_T55 l0 x7_1).f0.f1), .string ((rd_T55 l0 x7_1).f0.f2), .string (⟨#[]⟩ : ByteArray), .int .i64 0, .int .i64 0]) ?_ 3 _ rfl; (with_reducible repeat (first | refine blk_drewN ?_ _ | refine blk_drew ?_ | refine blk_alloc ?_ _)); refine blk_put (cs := #[.string ((rd_T55 l0 x7_1).f0.f0), .string ((rd_T55 l0 x7_1).f0.f1), .string (⟨#[]⟩ : ByteArray), .string (⟨#[]⟩ : ByteArray), .int .i64 0, .int .i64 0]) ?_ 2 _ rfl; (with_reducible repeat (first | refine blk_drewN ?_ _ | refine blk_drew ?_ | refine blk_alloc ?_ _)); refine blk_put (cs := #[.string ((rd_T55 l0 x7_1).f0.f0), .string (⟨#[]⟩ : ByteArray), .string (⟨#[]⟩ : ByteArray), .string (⟨#[]⟩ : ByteArray), .int .i64 0, .int .i64 0]) ?_ 1 _ rfl; (with_reducible repeat (first | refine blk_drewN ?_ _ | refine blk_drew ?_ | refine blk_alloc ?_ _)); refine blk_put (cs := #[.string (⟨#[]⟩ : ByteArray), .string (⟨#[]⟩ : ByteArray), .string (⟨#[]⟩ : ByteArray), .string (⟨#[]⟩ : ByteArray), .int .i64 0, .int .i64 0]) ?_ 0 _ rfl; (with_reducible repeat (first | refine blk_drewN ?_ _ | refine blk_drew ?_ | refine blk_alloc ?_ _)); exact BK205.out⟩
       have n1_ : Aside0 (Below w.heap.size w ((((((w6.setCell ⟨gb205, 0, none⟩ (.string ((rd_T55 l0 x7_1).f0.f0))).setCell ⟨gb205, 1, none⟩ (.string ((rd_T55 l0 x7_1).f0.f1))).setCell ⟨gb205, 2, none⟩ (.string ((rd_T55 l0 x7_1).f0.f2))).setCell ⟨gb205, 3, none⟩ (.string ((rd_T55 l0 x7_1).f0.f3))).setCell ⟨gb205, 4, none⟩ (.int .i64 ((rd_T55 l0 x7_1).f0.f4))).setCell ⟨gb205, 5, none⟩ (.int .i64 ((rd_T55 l0 x7_1).f1)))) := ⟨by repeat (first | (with_reducible first | exact HB.out | apply below_alloc | apply pw_below_drewN | apply below_drew1 | refine below_set ?_ GE205.out) | exact HB.out)⟩
       (try clear BK205)
       (try clear HB)
       generalize ((((((w6.setCell ⟨gb205, 0, none⟩ (.string ((rd_T55 l0 x7_1).f0.f0))).setCell ⟨gb205, 1, none⟩ (.string ((rd_T55 l0 x7_1).f0.f1))).setCell ⟨gb205, 2, none⟩ (.string ((rd_T55 l0 x7_1).f0.f2))).setCell ⟨gb205, 3, none⟩ (.string ((rd_T55 l0 x7_1).f0.f3))).setCell ⟨gb205, 4, none⟩ (.int .i64 ((rd_T55 l0 x7_1).f0.f4))).setCell ⟨gb205, 5, none⟩ (.int .i64 ((rd_T55 l0 x7_1).f1))) = w8 at n0_ n1_ ⊢
       have BK205 := n0_
       have HB := n1_
       clear n0_ n1_
       have n0_ := Aside0.mk (blk_drew BK205.out)
       have n1_ := Aside0.mk (below_drew1 HB.out)
       clear BK205
       clear HB
       have BK205 := n0_
       have HB := n1_
       clear n0_ n1_
       refine start_ (n := 19) (S := fun w' => w'.cell? ⟨gb205, 0, none⟩ = some (.string ((rd_T55 l0 x7_1).f0.f0)) ∧ w'.cell? ⟨gb205, 1, none⟩ = some (.string ((rd_T55 l0 x7_1).f0.f1)) ∧ w'.cell? ⟨gb205, 2, none⟩ = some (.string ((rd_T55 l0 x7_1).f0.f2)) ∧ w'.cell? ⟨gb205, 3, none⟩ = some (.string ((rd_T55 l0 x7_1).f0.f3)) ∧ w'.cell? ⟨gb205, 4, none⟩ = some (.int .i64 ((rd_T55 l0 x7_1).f0.f4)) ∧ w'.cell? ⟨gb205, 5, none⟩ = some (.int .i64 ((rd_T55 l0 x7_1).f1))) (ds := []) #[false, false, false, false, false, false, false, false, false, false, false, false, false, false, false, false, false, false, false] (by kernel_rfl) rfl rfl ⟨(blk_cell BK205.out 0).trans rfl, (blk_cell BK205.out 1).trans rfl, (blk_cell BK205.out 2).trans rfl, (blk_cell BK205.out 3).trans rfl, (blk_cell BK205.out 4).trans rfl, (blk_cell BK205.out 5).trans rfl⟩ (fun hHeld => ?_); refine with_tabW fact_Right.tab4 fact_Right.bits4 (fun HT_ HW_ => ?_)
       generalize w8.drew = w9 at BK205 HB hHeld ⊢
       refine pure_ (i := 0) (N := some 12) (v := ?_) (a' := ?_) #[true, false, false, false, false, false, false, false, false, false, false, false, false, false, false, false, false, false, false] rfl rfl (any_of HT_.out (by kernel_rfl)) (fun _ _ _ h => h) (Or.inl ⟨by rfl, ?_⟩) ?_ ?_
       rotate_left
       ·intro w'
        go_simp
        with_reducible rfl
       rotate_left
       ·simp only [Act.put, List.setIfInBounds_toArray, List.set_cons_zero, List.set_cons_succ, i64_w, i32_w]
        rfl
       refine take_ (i := 1) (N := some 13) (v := ?_) (a' := ?_) #[true, true, false, false, false, false, false, false, false, false, false, false, false, false, false, false, false, false, false] rfl rfl (take_ofW HT_.out HW_.out (by kernel_rfl)) (fun _ _ _ h => h) (Or.inl ⟨by rfl, ?_⟩) hHeld ?_ ?_
       rotate_left
       ·rintro w' ⟨s0, s1, s2, s3, s4, s5⟩
        go_simp
        with_reducible rfl
       rotate_left
       ·simp only [Act.put, List.setIfInBounds_toArray, List.set_cons_zero, List.set_cons_succ, i64_w, i32_w]
        rfl
       refine pure_ (i := 2) (N := some 14) (v := ?_) (a' := ?_) #[true, true, true, false, false, false, false, false, false, false, false, false, false, false, false, false, false, false, false] rfl rfl (any_of HT_.out (by kernel_rfl)) (fun _ _ _ h => h) (Or.inl ⟨by rfl, ?_⟩) ?_ ?_
       rotate_left
       ·intro w'
        go_simp
        with_reducible rfl
       rotate_left
       ·simp only [Act.put, List.setIfInBounds_toArray, List.set_cons_zero, List.set_cons_succ, i64_w, i32_w]
        rfl
       refine pure_ (i := 3) (N := some 15) (v := ?_) (a' := ?_) #[true, true, true, true, false, false, false, false, false, false, false, false, false, false, false, false, false, false, false] rfl rfl (any_of HT_.out (by kernel_rfl)) (fun _ _ _ h => h) (Or.inl ⟨by rfl, ?_⟩) ?_ ?_
       rotate_left
       ·intro w'
        go_simp
        with_reducible rfl
       rotate_left
       ·simp only [Act.put, List.setIfInBounds_toArray, List.set_cons_zero, List.set_cons_succ, i64_w, i32_w]
        rfl
       refine pure_ (i := 4) (N := some 16) (v := undef) (a' := ?_) #[true, true, true, true, true, false, false, false, false, false, false, false, false, false, false, false, false, false, false] rfl rfl (any_of HT_.out (by kernel_rfl)) (fun _ _ _ h => h) (Or.inr ⟨by rfl, rfl⟩) ?_ ?_
       rotate_left
       ·simp only [Act.put, List.setIfInBounds_toArray, List.set_cons_zero, List.set_cons_succ, i64_w, i32_w]
        rfl
       refine pure_ (i := 5) (N := some 17) (v := undef) (a' := ?_) #[true, true, true, true, true, true, false, false, false, false, false, false, false, false, false, false, false, false, false] rfl rfl (any_of HT_.out (by kernel_rfl)) (fun _ _ _ h => h) (Or.inr ⟨by rfl, rfl⟩) ?_ ?_
       rotate_left
       ·simp only [Act.put, List.setIfInBounds_toArray, List.set_cons_zero, List.set_cons_succ, i64_w, i32_w]
        rfl
       refine pure_ (i := 6) (N := some 18) (v := undef) (a' := ?_) #[true, true, true, true, true, true, true, false, false, false, false, false, false, false, false, false, false, false, false] rfl rfl (any_of HT_.out (by kernel_rfl)) (fun _ _ _ h => h) (Or.inr ⟨by rfl, rfl⟩) ?_ ?_
       rotate_left
       ·simp only [Act.put, List.setIfInBounds_toArray, List.set_cons_zero, List.set_cons_succ, i64_w, i32_w]
        rfl
       refine pure_ (i := 7) (N := some 19) (v := undef) (a' := ?_) #[true, true, true, true, true, true, true, true, false, false, false, false, false, false, false, false, false, false, false] rfl rfl (any_of HT_.out (by kernel_rfl)) (fun _ _ _ h => h) (Or.inr ⟨by rfl, rfl⟩) ?_ ?_
       rotate_left
       ·simp only [Act.put, List.setIfInBounds_toArray, List.set_cons_zero, List.set_cons_succ, i64_w, i32_w]
        rfl
       refine pure_ (i := 8) (N := some 20) (v := undef) (a' := ?_) #[true, true, true, true, true, true, true, true, true, false, false, false, false, false, false, false, false, false, false] rfl rfl (any_of HT_.out (by kernel_rfl)) (fun _ _ _ h => h) (Or.inr ⟨by rfl, rfl⟩) ?_ ?_
       rotate_left
       ·simp only [Act.put, List.setIfInBounds_toArray, List.set_cons_zero, List.set_cons_succ, i64_w, i32_w]
        rfl
       refine pure_ (i := 9) (N := some 21) (v := undef) (a' := ?_) #[true, true, true, true, true, true, true, true, true, true, false, false, false, false, false, false, false, false, false] rfl rfl (any_of HT_.out (by kernel_rfl)) (fun _ _ _ h => h) (Or.inr ⟨by rfl, rfl⟩) ?_ ?_
       rotate_left
       ·simp only [Act.put, List.setIfInBounds_toArray, List.set_cons_zero, List.set_cons_succ, i64_w, i32_w]
        rfl
       refine pure_ (i := 10) (N := some 22) (v := undef) (a' := ?_) #[true, true, true, true, true, true, true, true, true, true, true, false, false, false, false, false, false, false, false] rfl rfl (any_of HT_.out (by kernel_rfl)) (fun _ _ _ h => h) (Or.inr ⟨by rfl, rfl⟩) ?_ ?_
       rotate_left
       ·simp only [Act.put, List.setIfInBounds_toArray, List.set_cons_zero, List.set_cons_succ, i64_w, i32_w]
        rfl
       refine pure_ (i := 11) (N := some 23) (v := undef) (a' := ?_) #[true, true, true, true, true, true, true, true, true, true, true, true, false, false, false, false, false, false, false] rfl rfl (any_of HT_.out (by kernel_rfl)) (fun _ _ _ h => h) (Or.inr ⟨by rfl, rfl⟩) ?_ ?_
       rotate_left
       ·simp only [Act.put, List.setIfInBounds_toArray, List.set_cons_zero, List.set_cons_succ, i64_w, i32_w]
        rfl
       refine pure_ (i := 12) (N := some 24) (v := undef) (a' := ?_) #[true, true, true, true, true, true, true, true, true, true, true, true, true, false, false, false, false, false, false] rfl rfl (any_of HT_.out (by kernel_rfl)) (fun _ _ _ h => h) (Or.inr ⟨by rfl, rfl⟩) ?_ ?_
       rotate_left
       ·simp only [Act.put, List.setIfInBounds_toArray, List.set_cons_zero, List.set_cons_succ, i64_w, i32_w]
        rfl
       refine pure_ (i := 13) (N := some 25) (v := undef) (a' := ?_) #[true, true, true, true, true, true, true, true, true, true, true, true, true, true, false, false, false, false, false] rfl rfl (any_of HT_.out (by kernel_rfl)) (fun _ _ _ h => h) (Or.inr ⟨by rfl, rfl⟩) ?_ ?_
       rotate_left
       ·simp only [Act.put, List.setIfInBounds_toArray, List.set_cons_zero, List.set_cons_succ, i64_w, i32_w]
        rfl
       refine pure_ (i := 14) (N := some 26) (v := undef) (a' := ?_) #[true, true, true, true, true, true, true, true, true, true, true, true, true, true, true, false, false, false, false] rfl rfl (any_of HT_.out (by kernel_rfl)) (fun _ _ _ h => h) (Or.inr ⟨by rfl, rfl⟩) ?_ ?_
       rotate_left
       ·simp only [Act.put, List.setIfInBounds_toArray, List.set_cons_zero, List.set_cons_succ, i64_w, i32_w]
        rfl
       refine pure_ (i := 15) (N := some 27) (v := undef) (a' := ?_) #[true, true, true, true, true, true, true, true, true, true, true, true, true, true, true, true, false, false, false] rfl rfl (any_of HT_.out (by kernel_rfl)) (fun _ _ _ h => h) (Or.inr ⟨by rfl, rfl⟩) ?_ ?_
       rotate_left
       ·simp only [Act.put, List.setIfInBounds_toArray, List.set_cons_zero, List.set_cons_succ, i64_w, i32_w]
        rfl
       refine pure_ (i := 16) (N := some 28) (v := undef) (a' := ?_) #[true, true, true, true, true, true, true, true, true, true, true, true, true, true, true, true, true, false, false] rfl rfl (any_of HT_.out (by kernel_rfl)) (fun _ _ _ h => h) (Or.inr ⟨by rfl, rfl⟩) ?_ ?_
       rotate_left
       ·simp only [Act.put, List.setIfInBounds_toArray, List.set_cons_zero, List.set_cons_succ, i64_w, i32_w]
        rfl
       refine pure_ (i := 17) (N := some 29) (v := undef) (a' := ?_) #[true, true, true, true, true, true, true, true, true, true, true, true, true, true, true, true, true, true, false] rfl rfl (any_of HT_.out (by kernel_rfl)) (fun _ _ _ h => h) (Or.inr ⟨by rfl, rfl⟩) ?_ ?_
       rotate_left
       ·simp only [Act.put, List.setIfInBounds_toArray, List.set_cons_zero, List.set_cons_succ, i64_w, i32_w]
        rfl
       refine pure_ (i := 18) (N := some 30) (v := ?_) (a' := ?_) #[true, true, true, true, true, true, true, true, true, true, true, true, true, true, true, true, true, true, true] rfl rfl (any_of HT_.out (by kernel_rfl)) (fun _ _ _ h => h) (Or.inl ⟨by rfl, ?_⟩) ?_ ?_
       rotate_left
       ·intro w'
        go_simp
        with_reducible rfl
       rotate_left
       ·simp only [Act.put, List.setIfInBounds_toArray, List.set_cons_zero, List.set_cons_succ, i64_w, i32_w]
        rfl
       refine done_ (done_of HT_.out (by kernel_rfl)) ?_
       try go_wp2
       go_ret
       exact ⟨re_, by repeat (first | (with_reducible first | exact HB.out | apply below_alloc | apply pw_below_drewN | apply below_drew1 | refine below_set ?_ GE205.out) | exact HB.out)⟩
      ·rw [if_neg c5] at H
       have c5b0 : (((rd_T55 l0 x7_1).f1) == 0) = false := beq_eq_false_iff_ne.mpr c5
       have c5b1 : (((rd_T55 l0 x7_1).f1) != 0) = true := bne_iff_ne.mpr c5
       by_cases c10 : x7_1 > 0
       ·rw [if_pos c10] at H
        have c10b0 : decide (0 < x7_1) = true := decide_eq_true c10
        clear c10
        obtain ⟨ji11, hji11⟩ : ∃ j_ : Int, (wrap64 (x7_1 - 1)) = j_ := ⟨_, rfl⟩
        replace H : (if 0 ≤ (ji11) then (if (ji11) < (l0.length : Int) then ((fact_Cmp.f k1 ((rd_T55 l0 (ji11)).f0.f0) ((rd_T55 l0 (ji11)).f0.f1) ((rd_T55 l0 (ji11)).f0.f2) ((rd_T55 l0 (ji11)).f0.f3) ((rd_T55 l0 (ji11)).f0.f4) ((rd_T55 l0 x7_1).f0.f0) ((rd_T55 l0 x7_1).f0.f1) ((rd_T55 l0 x7_1).f0.f2) ((rd_T55 l0 x7_1).f0.f3) ((rd_T55 l0 x7_1).f0.f4)).bind fun t207 => (if t207 ≥ 0 then (some false) else (fact_Right.l0 k1 l0 l0 (l0.length : Int) (wrap64 (x7_1 + 1))))) else (none)) else (none)) = some r := by first | (rw [hji11] at H; exact H) | (simp only [hji11] at H ⊢; exact H)
        have hji11w : (IntKind.i64.wrap (x7_1 - 1)) = ji11 := (i64_w _).trans hji11
        by_cases c12 : 0 ≤ (ji11)
        ·rw [if_pos c12] at H
         have c12b0 : decide (0 ≤ (ji11)) = true := decide_eq_true c12
         clear c12
         by_cases c13 : (ji11) < (l0.length : Int)
         ·rw [if_pos c13] at H
          have c13b0 : decide ((ji11) < (l0.length : Int)) = true := decide_eq_true c13
          clear c13
          replace H := Option.bind_eq_some_iff.mp H
          obtain ⟨t207, A140, H⟩ := H
          replace H : (if t207 ≥ 0 then (some false) else (fact_Right.l0 k1 l0 l0 (l0.length : Int) (wrap64 (x7_1 + 1)))) = some r := H
          have A14 := Aside0.mk A140
          clear A140
          by_cases c15 : t207 ≥ 0
          ·rw [if_pos c15] at H
           have c15b0 : decide (0 ≤ t207) = true := decide_eq_true c15
           clear c15
           obtain rfl := Option.some.inj H
           have p204 : 0 ≤ (x7_1 : Int) := of_decide_eq_true as_
           have q204 : x7_1 < (l0.length : Int) := of_decide_eq_true as_
           obtain ⟨ad204, e204, hx204_0, hx204_1, hx204_2, hx204_3, hx204_4, hx204_5⟩ := at_T55 HR0.out x7_1 p204 q204
           cases e204
           replace hx204_0 := cb HB hx204_0
           replace hx204_1 := cb HB hx204_1
           replace hx204_2 := cb HB hx204_2
           replace hx204_3 := cb HB hx204_3
           replace hx204_4 := cb HB hx204_4
           replace hx204_5 := cb HB hx204_5
           replace p204 := eq_true p204
           replace q204 := eq_true q204
           try go_wp2_with (first | ((with_reducible refine gate_dst (N := 4) rfl ?_); refine box_event ?hg (N := 4) ?hd (cs := #[.string (⟨#[]⟩ : ByteArray), .string (⟨#[]⟩ : ByteArray), .string (⟨#[]⟩ : ByteArray), .string (⟨#[]⟩ : ByteArray), .int .i64 0, .int .i64 0]) (t := 55) ?hr ?_; (case hd => rfl); (case hg => rfl); (case hr => first | (go_simp; done) | (go_simp; rfl)); intro gb205 hg w16 hbox hb; have n0_ := Aside0.mk (below_step bw hb); have n1_ := Aside0.mk (hbox); have n2_ := Aside0.mk ((by rw [hg]; exact (below_size bw) : w.heap.size ≤ gb205)); have n3_ := Aside0.mk ((by rw [hg]; exact (below_size bw) : w.heap.size ≤ gb205)); clear HB; have HB := n0_; have BK205 := n1_; have GW205 := n2_; have GE205 := n3_; clear n0_ n1_ n2_ n3_; clear hb hbox hg; have hcz17_0 : w16.cell? ⟨gb205, 0, none⟩ = some (.string (⟨#[]⟩ : ByteArray)) := (blk_cell BK205.out 0).trans rfl; have hcz17_1 : w16.cell? ⟨gb205, 1, none⟩ = some (.string (⟨#[]⟩ : ByteArray)) := (blk_cell BK205.out 1).trans rfl; have hcz17_2 : w16.cell? ⟨gb205, 2, none⟩ = some (.string (⟨#[]⟩ : ByteArray)) := (blk_cell BK205.out 2).trans rfl; have hcz17_3 : w16.cell? ⟨gb205, 3, none⟩ = some (.string (⟨#[]⟩ : ByteArray)) := (blk_cell BK205.out 3).trans rfl; have hcz17_4 : w16.cell? ⟨gb205, 4, none⟩ = some (.int .i64 0) := (blk_cell BK205.out 4).trans rfl; have hcz17_5 : w16.cell? ⟨gb205, 5, none⟩ = some (.int .i64 0) := (blk_cell BK205.out 5).trans rfl; have hfz17_0 := blk_frozen BK205.out 0; have hfz17_1 := blk_frozen BK205.out 1; have hfz17_2 := blk_frozen BK205.out 2; have hfz17_3 := blk_frozen BK205.out 3; have hfz17_4 := blk_frozen BK205.out 4; have hfz17_5 := blk_frozen BK205.out 5))
           have n0_ : Aside0 (((((((w16.setCell ⟨gb205, 0, none⟩ (.string ((rd_T55 l0 x7_1).f0.f0))).setCell ⟨gb205, 1, none⟩ (.string ((rd_T55 l0 x7_1).f0.f1))).setCell ⟨gb205, 2, none⟩ (.string ((rd_T55 l0 x7_1).f0.f2))).setCell ⟨gb205, 3, none⟩ (.string ((rd_T55 l0 x7_1).f0.f3))).setCell ⟨gb205, 4, none⟩ (.int .i64 ((rd_T55 l0 x7_1).f0.f4))).setCell ⟨gb205, 5, none⟩ (.int .i64 ((rd_T55 l0 x7_1).f1))).heap[gb205]? = some (.cells #[.string ((rd_T55 l0 x7_1).f0.f0), .string ((rd_T55 l0 x7_1).f0.f1), .string ((rd_T55 l0 x7_1).f0.f2), .string ((rd_T55 l0 x7_1).f0.f3), .int .i64 ((rd_T55 l0 x7_1).f0.f4), .int .i64 ((rd_T55 l0 x7_1).f1)] 55 (0, 0))) := ⟨by (with_reducible repeat (first | refine blk_drewN ?_ _ | refine blk_drew ?_ | refine blk_alloc ?_ _)); refine blk_put (cs := #[.string ((rd_T55 l0 x7_1).f0.f0), .string ((rd_T55 l0 x7_1).f0.f1), .string ((rd_T55 l0 x7_1).f0.f2), .string ((rd_T55 l0 x7_1).f0.f3), .int .i64 ((rd_T55 l0 x7_1).f0.f4), .int .i64 0]) ?_ 5 _ rfl; (with_reducible repeat (first | refine blk_drewN ?_ _ | refine blk_drew ?_ | refine blk_alloc ?_ _)); refine blk_put (cs := #[.string ((rd_T55 l0 x7_1).f0.f0), .string ((rd_T55 l0 x7_1).f0.f1), .string ((rd_T55 l0 x7_1).f0.f2), .string ((rd_T55 l0 x7_1).f0.f3), .int .i64 0, .int .i64 0]) ?_ 4 _ rfl; (with_reducible repeat (first | refine blk_drewN ?_ _ | refine blk_drew ?_ | refine blk_alloc ?_ _)); refine blk_put (cs := #[.string ((rd_T55 l0 x7_1).f0.f0), .string ((rd_T55 l0 x7_1).f0.f1), .string ((rd_T55 l0 x7_1).f0.f2), .string (⟨#[]⟩ : ByteArray), .int .i64 0, .int .i64 0]) ?_ 3 _ rfl; (with_reducible repeat (first | refine blk_drewN ?_ _ | refine blk_drew ?_ | refine blk_alloc ?_ _)); refine blk_put (cs := #[.string ((rd_T55 l0 x7_1).f0.f0), .string ((rd_T55 l0 x7_1).f0.f1), .string (⟨#[]⟩ : ByteArray), .string (⟨#[]⟩ : ByteArray), .int .i64 0, .int .i64 0]) ?_ 2 _ rfl; (with_reducible repeat (first | refine blk_drewN ?_ _ | refine blk_drew ?_ | refine blk_alloc ?_ _)); refine blk_put (cs := #[.string ((rd_T55 l0 x7_1).f0.f0), .string (⟨#[]⟩ : ByteArray), .string (⟨#[]⟩ : ByteArray), .string (⟨#[]⟩ : ByteArray), .int .i64 0, .int .i64 0]) ?_ 1 _ rfl; (with_reducible repeat (first | refine blk_drewN ?_ _ | refine blk_drew ?_ | refine blk_alloc ?_ _)); refine blk_put (cs := #[.string (⟨#[]⟩ : ByteArray), .string (⟨#[]⟩ : ByteArray), .string (⟨#[]⟩ : ByteArray), .string (⟨#[]⟩ : ByteArray), .int .i64 0, .int .i64 0]) ?_ 0 _ rfl; (with_reducible repeat (first | refine blk_drewN ?_ _ | refine blk_drew ?_ | refine blk_alloc ?_ _)); exact BK205.out⟩
           have n1_ : Aside0 (Below w.heap.size w ((((((w16.setCell ⟨gb205, 0, none⟩ (.string ((rd_T55 l0 x7_1).f0.f0))).setCell ⟨gb205, 1, none⟩ (.string ((rd_T55 l0 x7_1).f0.f1))).setCell ⟨gb205, 2, none⟩ (.string ((rd_T55 l0 x7_1).f0.f2))).setCell ⟨gb205, 3, none⟩ (.string ((rd_T55 l0 x7_1).f0.f3))).setCell ⟨gb205, 4, none⟩ (.int .i64 ((rd_T55 l0 x7_1).f0.f4))).setCell ⟨gb205, 5, none⟩ (.int .i64 ((rd_T55 l0 x7_1).f1)))) := ⟨by repeat (first | (with_reducible first | exact HB.out | apply below_alloc | apply pw_below_drewN | apply below_drew1 | refine below_set ?_ GE205.out) | exact HB.out)⟩
           (try clear BK205)
           (try clear HB)
           generalize ((((((w16.setCell ⟨gb205, 0, none⟩ (.string ((rd_T55 l0 x7_1).f0.f0))).setCell ⟨gb205, 1, none⟩ (.string ((rd_T55 l0 x7_1).f0.f1))).setCell ⟨gb205, 2, none⟩ (.string ((rd_T55 l0 x7_1).f0.f2))).setCell ⟨gb205, 3, none⟩ (.string ((rd_T55 l0 x7_1).f0.f3))).setCell ⟨gb205, 4, none⟩ (.int .i64 ((rd_T55 l0 x7_1).f0.f4))).setCell ⟨gb205, 5, none⟩ (.int .i64 ((rd_T55 l0 x7_1).f1))) = w18 at n0_ n1_ ⊢
           have BK205 := n0_
           have HB := n1_
           clear n0_ n1_
           have n0_ := Aside0.mk (blk_drew BK205.out)
           have n1_ := Aside0.mk (below_drew1 HB.out)
           clear BK205
           clear HB
           have BK205 := n0_
           have HB := n1_
           clear n0_ n1_
           have p206 : 0 ≤ ((ji11) : Int) := of_decide_eq_true as_
           have q206 : (ji11) < (l0.length : Int) := of_decide_eq_true as_
           obtain ⟨ad206, e206, hx206_0, hx206_1, hx206_2, hx206_3, hx206_4, hx206_5⟩ := at_T55 HR0.out (ji11) p206 q206
           have hw206_5 := hx206_5
           have hw206_4 := hx206_4
           have hw206_3 := hx206_3
           have hw206_2 := hx206_2
           have hw206_1 := hx206_1
           have hw206_0 := hx206_0
           obtain rfl : ad204 = ad206 := (by injection e206)
           replace hx206_0 := cb HB hx206_0
           replace hx206_1 := cb HB hx206_1
           replace hx206_2 := cb HB hx206_2
           replace hx206_3 := cb HB hx206_3
           replace hx206_4 := cb HB hx206_4
           replace hx206_5 := cb HB hx206_5
           replace p206 := eq_true p206
           replace q206 := eq_true q206
           refine start_ (n := 19) (S := fun w' => w'.cell? ⟨gb205, 0, none⟩ = some (.string ((rd_T55 l0 x7_1).f0.f0)) ∧ w'.cell? ⟨gb205, 1, none⟩ = some (.string ((rd_T55 l0 x7_1).f0.f1)) ∧ w'.cell? ⟨gb205, 2, none⟩ = some (.string ((rd_T55 l0 x7_1).f0.f2)) ∧ w'.cell? ⟨gb205, 3, none⟩ = some (.string ((rd_T55 l0 x7_1).f0.f3)) ∧ w'.cell? ⟨gb205, 4, none⟩ = some (.int .i64 ((rd_T55 l0 x7_1).f0.f4)) ∧ w'.cell? ⟨gb205, 5, none⟩ = some (.int .i64 ((rd_T55 l0 x7_1).f1)) ∧ w'.cell? (ad204.add (((ji11)).toNat * 6)) = some (.string ((rd_T55 l0 (ji11)).f0.f0)) ∧ w'.cell? ⟨(ad204.add (((ji11)).toNat * 6)).block, (ad204.add (((ji11)).toNat * 6)).off + 1, none⟩ = some (.string ((rd_T55 l0 (ji11)).f0.f1)) ∧ w'.cell? ⟨(ad204.add (((ji11)).toNat * 6)).block, (ad204.add (((ji11)).toNat * 6)).off + 2, none⟩ = some (.string ((rd_T55 l0 (ji11)).f0.f2)) ∧ w'.cell? ⟨(ad204.add (((ji11)).toNat * 6)).block, (ad204.add (((ji11)).toNat * 6)).off + 3, none⟩ = some (.string ((rd_T55 l0 (ji11)).f0.f3)) ∧ w'.cell? ⟨(ad204.add (((ji11)).toNat * 6)).block, (ad204.add (((ji11)).toNat * 6)).off + 4, none⟩ = some (.int .i64 ((rd_T55 l0 (ji11)).f0.f4)) ∧ w'.cell? ⟨(ad204.add (((ji11)).toNat * 6)).block, (ad204.add (((ji11)).toNat * 6)).off + 5, none⟩ = some (.int .i64 ((rd_T55 l0 (ji11)).f1))) (ds := []) #[false, false, false, false, false, false, false, false, false, false, false, false, false, false, false, false, false, false, false] (by kernel_rfl) rfl rfl ⟨(blk_cell BK205.out 0).trans rfl, (blk_cell BK205.out 1).trans rfl, (blk_cell BK205.out 2).trans rfl, (blk_cell BK205.out 3).trans rfl, (blk_cell BK205.out 4).trans rfl, (blk_cell BK205.out 5).trans rfl, (cb HB hw206_0), (cb HB hw206_1), (cb HB hw206_2), (cb HB hw206_3), (cb HB hw206_4), (cb HB hw206_5)⟩ (fun hHeld => ?_); refine with_tabW fact_Right.tab4 fact_Right.bits4 (fun HT_ HW_ => ?_)
           generalize w18.drew = w19 at BK205 HB hx206_0 hx206_1 hx206_2 hx206_3 hx206_4 hx206_5 hHeld ⊢
           refine pure_ (i := 0) (N := some 12) (v := ?_) (a' := ?_) #[true, false, false, false, false, false, false, false, false, false, false, false, false, false, false, false, false, false, false] rfl rfl (any_of HT_.out (by kernel_rfl)) (fun _ _ _ h => h) (Or.inl ⟨by rfl, ?_⟩) ?_ ?_
           rotate_left
           ·intro w'
            go_simp
            with_reducible rfl
           rotate_left
           ·simp only [Act.put, List.setIfInBounds_toArray, List.set_cons_zero, List.set_cons_succ, i64_w, i32_w]
            rfl
           refine take_ (i := 1) (N := some 13) (v := ?_) (a' := ?_) #[true, true, false, false, false, false, false, false, false, false, false, false, false, false, false, false, false, false, false] rfl rfl (take_ofW HT_.out HW_.out (by kernel_rfl)) (fun _ _ _ h => h) (Or.inl ⟨by rfl, ?_⟩) hHeld ?_ ?_
           rotate_left
           ·rintro w' ⟨s0, s1, s2, s3, s4, s5, s6, s7, s8, s9, s10, s11⟩
            go_simp
            with_reducible rfl
           rotate_left
           ·simp only [Act.put, List.setIfInBounds_toArray, List.set_cons_zero, List.set_cons_succ, i64_w, i32_w]
            rfl
           refine pure_ (i := 2) (N := some 14) (v := ?_) (a' := ?_) #[true, true, true, false, false, false, false, false, false, false, false, false, false, false, false, false, false, false, false] rfl rfl (any_of HT_.out (by kernel_rfl)) (fun _ _ _ h => h) (Or.inl ⟨by rfl, ?_⟩) ?_ ?_
           rotate_left
           ·intro w'
            go_simp
            with_reducible rfl
           rotate_left
           ·simp only [Act.put, List.setIfInBounds_toArray, List.set_cons_zero, List.set_cons_succ, i64_w, i32_w]
            rfl
           refine pure_ (i := 3) (N := some 15) (v := ?_) (a' := ?_) #[true, true, true, true, false, false, false, false, false, false, false, false, false, false, false, false, false, false, false] rfl rfl (any_of HT_.out (by kernel_rfl)) (fun _ _ _ h => h) (Or.inl ⟨by rfl, ?_⟩) ?_ ?_
           rotate_left
           ·intro w'
            go_simp
            with_reducible rfl
           rotate_left
           ·simp only [Act.put, List.setIfInBounds_toArray, List.set_cons_zero, List.set_cons_succ, i64_w, i32_w]
            rfl
           refine pure_ (i := 4) (N := some 16) (v := ?_) (a' := ?_) #[true, true, true, true, true, false, false, false, false, false, false, false, false, false, false, false, false, false, false] rfl rfl (any_of HT_.out (by kernel_rfl)) (fun _ _ _ h => h) (Or.inl ⟨by rfl, ?_⟩) ?_ ?_
           rotate_left
           ·intro w'
            go_simp
            with_reducible rfl
           rotate_left
           ·simp only [Act.put, List.setIfInBounds_toArray, List.set_cons_zero, List.set_cons_succ, i64_w, i32_w]
            rfl
           refine pure_ (i := 5) (N := some 17) (v := ?_) (a' := ?_) #[true, true, true, true, true, true, false, false, false, false, false, false, false, false, false, false, false, false, false] rfl rfl (any_of HT_.out (by kernel_rfl)) (fun _ _ _ h => h) (Or.inl ⟨by rfl, ?_⟩) ?_ ?_
           rotate_left
           ·intro w'
            go_simp
            with_reducible rfl
           rotate_left
           ·simp only [Act.put, List.setIfInBounds_toArray, List.set_cons_zero, List.set_cons_succ, i64_w, i32_w]
            rfl
           refine pure_ (i := 6) (N := some 18) (v := ?_) (a' := ?_) #[true, true, true, true, true, true, true, false, false, false, false, false, false, false, false, false, false, false, false] rfl rfl (any_of HT_.out (by kernel_rfl)) (fun _ _ _ h => h) (Or.inl ⟨by rfl, ?_⟩) ?_ ?_
           rotate_left
           ·intro w'
            go_simp
            with_reducible rfl
           rotate_left
           ·simp only [Act.put, List.setIfInBounds_toArray, List.set_cons_zero, List.set_cons_succ, i64_w, i32_w]
            rfl
           refine pure_ (i := 7) (N := some 19) (v := ?_) (a' := ?_) #[true, true, true, true, true, true, true, true, false, false, false, false, false, false, false, false, false, false, false] rfl rfl (any_of HT_.out (by kernel_rfl)) (fun _ _ _ h => h) (Or.inl ⟨by rfl, ?_⟩) ?_ ?_
           rotate_left
           ·intro w'
            go_simp
            with_reducible rfl
           rotate_left
           ·simp only [Act.put, List.setIfInBounds_toArray, List.set_cons_zero, List.set_cons_succ, i64_w, i32_w]
            rfl
           refine pure_ (i := 8) (N := some 20) (v := ?_) (a' := ?_) #[true, true, true, true, true, true, true, true, true, false, false, false, false, false, false, false, false, false, false] rfl rfl (any_of HT_.out (by kernel_rfl)) (fun _ _ _ h => h) (Or.inl ⟨by rfl, ?_⟩) ?_ ?_
           rotate_left
           ·intro w'
            go_simp
            with_reducible rfl
           rotate_left
           ·simp only [Act.put, List.setIfInBounds_toArray, List.set_cons_zero, List.set_cons_succ, i64_w, i32_w]
            rfl
           refine pure_ (i := 9) (N := some 21) (v := ?_) (a' := ?_) #[true, true, true, true, true, true, true, true, true, true, false, false, false, false, false, false, false, false, false] rfl rfl (any_of HT_.out (by kernel_rfl)) (fun _ _ _ h => h) (Or.inl ⟨by rfl, ?_⟩) ?_ ?_
           rotate_left
           ·intro w'
            go_simp
            with_reducible rfl
           rotate_left
           ·simp only [Act.put, List.setIfInBounds_toArray, List.set_cons_zero, List.set_cons_succ, i64_w, i32_w]
            rfl
           refine pure_ (i := 10) (N := some 22) (v := ?_) (a' := ?_) #[true, true, true, true, true, true, true, true, true, true, true, false, false, false, false, false, false, false, false] rfl rfl (any_of HT_.out (by kernel_rfl)) (fun _ _ _ h => h) (Or.inl ⟨by rfl, ?_⟩) ?_ ?_
           rotate_left
           ·intro w'
            go_simp
            with_reducible rfl
           rotate_left
           ·simp only [Act.put, List.setIfInBounds_toArray, List.set_cons_zero, List.set_cons_succ, i64_w, i32_w]
            rfl
           refine pure_ (i := 11) (N := some 23) (v := ?_) (a' := ?_) #[true, true, true, true, true, true, true, true, true, true, true, true, false, false, false, false, false, false, false] rfl rfl (any_of HT_.out (by kernel_rfl)) (fun _ _ _ h => h) (Or.inl ⟨by rfl, ?_⟩) ?_ ?_
           rotate_left
           ·intro w'
            go_simp
            with_reducible rfl
           rotate_left
           ·simp only [Act.put, List.setIfInBounds_toArray, List.set_cons_zero, List.set_cons_succ, i64_w, i32_w]
            rfl
           refine pure_ (i := 13) (N := some 25) (v := ?_) (a' := ?_) #[true, true, true, true, true, true, true, true, true, true, true, true, false, true, false, false, false, false, false] rfl rfl (any_of HT_.out (by kernel_rfl)) (fun _ _ _ h => h) (Or.inl ⟨by rfl, ?_⟩) ?_ ?_
           rotate_left
           ·intro w'
            go_simp
            with_reducible rfl
           rotate_left
           ·simp only [Act.put, List.setIfInBounds_toArray, List.set_cons_zero, List.set_cons_succ, i64_w, i32_w]
            rfl
           refine take_ (i := 12) (N := some 24) (v := ?_) (a' := ?_) #[true, true, true, true, true, true, true, true, true, true, true, true, true, true, false, false, false, false, false] rfl rfl (take_ofW HT_.out HW_.out (by kernel_rfl)) (fun _ _ _ h => h) (Or.inl ⟨by rfl, ?_⟩) hHeld ?_ ?_
           rotate_left
           ·rintro w' ⟨s0, s1, s2, s3, s4, s5, s6, s7, s8, s9, s10, s11⟩
            go_simp
            with_reducible rfl
           rotate_left
           ·simp only [Act.put, List.setIfInBounds_toArray, List.set_cons_zero, List.set_cons_succ, i64_w, i32_w]
            rfl
           refine take_ (i := 14) (N := some 26) (v := ?_) (a' := ?_) #[true, true, true, true, true, true, true, true, true, true, true, true, true, true, true, false, false, false, false] rfl rfl (take_ofW HT_.out HW_.out (by kernel_rfl)) (fun _ _ _ h => h) (Or.inl ⟨by rfl, ?_⟩) hHeld ?_ ?_
           rotate_left
           ·rintro w' ⟨s0, s1, s2, s3, s4, s5, s6, s7, s8, s9, s10, s11⟩
            go_simp
            with_reducible rfl
           rotate_left
           ·simp only [Act.put, List.setIfInBounds_toArray, List.set_cons_zero, List.set_cons_succ, i64_w, i32_w]
            rfl
           refine one_ (i := 15) (N := some 27) #[true, true, true, true, true, true, true, true, true, true, true, true, true, true, true, true, false, false, false] rfl rfl (one_of HT_.out (by kernel_rfl)) (by decide) (fun K hK => ?_)
           refine goes_ Try.func23 (by kernel_rfl) rfl #[.agg #[.string ((rd_T55 l0 (ji11)).f0.f0), .string ((rd_T55 l0 (ji11)).f0.f1), .string ((rd_T55 l0 (ji11)).f0.f2), .string ((rd_T55 l0 (ji11)).f0.f3), .int .i64 ((rd_T55 l0 (ji11)).f0.f4)], .agg #[.string ((rd_T55 l0 x7_1).f0.f0), .string ((rd_T55 l0 x7_1).f0.f1), .string ((rd_T55 l0 x7_1).f0.f2), .string ((rd_T55 l0 x7_1).f0.f3), .int .i64 ((rd_T55 l0 x7_1).f0.f4)]] (by rfl) rfl rfl (by (try simp only [List.map_toArray, List.map_cons, List.map_nil]); first | done | (simp only [hji11]; rfl) | rfl | (simp only [List.length_drop, List.length_take]; rfl)) ?_
           with_reducible refine (fact_Cmp.calls k1 ((rd_T55 l0 (ji11)).f0.f0) ((rd_T55 l0 (ji11)).f0.f1) ((rd_T55 l0 (ji11)).f0.f2) ((rd_T55 l0 (ji11)).f0.f3) ((rd_T55 l0 (ji11)).f0.f4) ((rd_T55 l0 x7_1).f0.f0) ((rd_T55 l0 x7_1).f0.f1) ((rd_T55 l0 x7_1).f0.f2) ((rd_T55 l0 x7_1).f0.f3) ((rd_T55 l0 x7_1).f0.f4) t207 _ A14.out).mono ?_
           rintro e w20 ⟨rfl, hb⟩
           refine ⟨_, rfl, ?_⟩
           have n0_ := Aside0.mk (blk_below (g := gb205) (o := .cells #[.string ((rd_T55 l0 x7_1).f0.f0), .string ((rd_T55 l0 x7_1).f0.f1), .string ((rd_T55 l0 x7_1).f0.f2), .string ((rd_T55 l0 x7_1).f0.f3), .int .i64 ((rd_T55 l0 x7_1).f0.f4), .int .i64 ((rd_T55 l0 x7_1).f1)] 55 (0, 0)) (by (with_reducible repeat (first | refine blk_drewN ?_ _ | refine blk_drew ?_ | refine blk_alloc ?_ _)); exact BK205.out) hb)
           have n1_ := Aside0.mk (below_step (by repeat (first | (with_reducible first | exact HB.out | apply below_alloc | apply pw_below_drewN | apply below_drew1 | refine below_set ?_ GE205.out) | exact HB.out)) hb)
           clear BK205
           clear HB
           have BK205 := n0_
           have HB := n1_
           clear n0_ n1_
           (try clear hb)
           (try clear hb2)
           (try clear hk)
           (try clear hi)
           refine hK.out _ _ ⟨(blk_cell BK205.out 0).trans rfl, (blk_cell BK205.out 1).trans rfl, (blk_cell BK205.out 2).trans rfl, (blk_cell BK205.out 3).trans rfl, (blk_cell BK205.out 4).trans rfl, (blk_cell BK205.out 5).trans rfl, (cb HB hw206_0), (cb HB hw206_1), (cb HB hw206_2), (cb HB hw206_3), (cb HB hw206_4), (cb HB hw206_5)⟩ (fun hHeld => ?_)
           clear hK K
           refine norm_ (a' := ?_) ?_ ?_
           rotate_left
           ·show Act.put _ (some 27) _ = _
            simp only [Act.put, List.setIfInBounds_toArray, List.set_cons_zero, List.set_cons_succ, i64_w, i32_w]
            rfl
           refine pure_ (i := 16) (N := some 28) (v := ?_) (a' := ?_) #[true, true, true, true, true, true, true, true, true, true, true, true, true, true, true, true, true, false, false] rfl rfl (any_of HT_.out (by kernel_rfl)) (fun _ _ _ h => h) (Or.inl ⟨by rfl, ?_⟩) ?_ ?_
           rotate_left
           ·intro w'
            go_simp
            with_reducible rfl
           rotate_left
           ·simp only [Act.put, List.setIfInBounds_toArray, List.set_cons_zero, List.set_cons_succ, i64_w, i32_w]
            rfl
           refine pure_ (i := 17) (N := some 29) (v := ?_) (a' := ?_) #[true, true, true, true, true, true, true, true, true, true, true, true, true, true, true, true, true, true, false] rfl rfl (any_of HT_.out (by kernel_rfl)) (fun _ _ _ h => h) (Or.inl ⟨by rfl, ?_⟩) ?_ ?_
           rotate_left
           ·intro w'
            go_simp
            with_reducible rfl
           rotate_left
           ·simp only [Act.put, List.setIfInBounds_toArray, List.set_cons_zero, List.set_cons_succ, i64_w, i32_w]
            rfl
           refine pure_ (i := 18) (N := some 30) (v := ?_) (a' := ?_) #[true, true, true, true, true, true, true, true, true, true, true, true, true, true, true, true, true, true, true] rfl rfl (any_of HT_.out (by kernel_rfl)) (fun _ _ _ h => h) (Or.inl ⟨by rfl, ?_⟩) ?_ ?_
           rotate_left
           ·intro w'
            go_simp
            with_reducible rfl
           rotate_left
           ·simp only [Act.put, List.setIfInBounds_toArray, List.set_cons_zero, List.set_cons_succ, i64_w, i32_w]
            rfl
           refine done_ (done_of HT_.out (by kernel_rfl)) ?_
           try go_wp2
           go_ret
           exact ⟨by first | rfl | (simp [errW_none, errW_some] <;> rfl) | (simp only [← hji11]; first | rfl | (simp [errW_none, errW_some] <;> rfl)) | (simp [*, errW_none, errW_some] <;> rfl), by repeat (first | (with_reducible first | exact HB.out | apply below_alloc | apply pw_below_drewN | apply below_drew1 | refine below_set ?_ GE205.out) | exact HB.out)⟩
          ·rw [if_neg c15] at H
           have c15b0 : decide (0 ≤ t207) = false := decide_eq_false c15
           clear c15
           have H' := Aside0.mk H
           clear H
           have p204 : 0 ≤ (x7_1 : Int) := of_decide_eq_true as_
           have q204 : x7_1 < (l0.length : Int) := of_decide_eq_true as_
           obtain ⟨ad204, e204, hx204_0, hx204_1, hx204_2, hx204_3, hx204_4, hx204_5⟩ := at_T55 HR0.out x7_1 p204 q204
           cases e204
           replace hx204_0 := cb HB hx204_0
           replace hx204_1 := cb HB hx204_1
           replace hx204_2 := cb HB hx204_2
           replace hx204_3 := cb HB hx204_3
           replace hx204_4 := cb HB hx204_4
           replace hx204_5 := cb HB hx204_5
           replace p204 := eq_true p204
           replace q204 := eq_true q204
           try go_wp2_with (first | ((with_reducible refine gate_dst (N := 4) rfl ?_); refine box_event ?hg (N := 4) ?hd (cs := #[.string (⟨#[]⟩ : ByteArray), .string (⟨#[]⟩ : ByteArray), .string (⟨#[]⟩ : ByteArray), .string (⟨#[]⟩ : ByteArray), .int .i64 0, .int .i64 0]) (t := 55) ?hr ?_; (case hd => rfl); (case hg => rfl); (case hr => first | (go_simp; done) | (go_simp; rfl)); intro gb205 hg w21 hbox hb; have n0_ := Aside0.mk (below_step bw hb); have n1_ := Aside0.mk (hbox); have n2_ := Aside0.mk ((by rw [hg]; exact (below_size bw) : w.heap.size ≤ gb205)); have n3_ := Aside0.mk ((by rw [hg]; exact (below_size bw) : w.heap.size ≤ gb205)); clear HB; have HB := n0_; have BK205 := n1_; have GW205 := n2_; have GE205 := n3_; clear n0_ n1_ n2_ n3_; clear hb hbox hg; have hcz22_0 : w21.cell? ⟨gb205, 0, none⟩ = some (.string (⟨#[]⟩ : ByteArray)) := (blk_cell BK205.out 0).trans rfl; have hcz22_1 : w21.cell? ⟨gb205, 1, none⟩ = some (.string (⟨#[]⟩ : ByteArray)) := (blk_cell BK205.out 1).trans rfl; have hcz22_2 : w21.cell? ⟨gb205, 2, none⟩ = some (.string (⟨#[]⟩ : ByteArray)) := (blk_cell BK205.out 2).trans rfl; have hcz22_3 : w21.cell? ⟨gb205, 3, none⟩ = some (.string (⟨#[]⟩ : ByteArray)) := (blk_cell BK205.out 3).trans rfl; have hcz22_4 : w21.cell? ⟨gb205, 4, none⟩ = some (.int .i64 0) := (blk_cell BK205.out 4).trans rfl; have hcz22_5 : w21.cell? ⟨gb205, 5, none⟩ = some (.int .i64 0) := (blk_cell BK205.out 5).trans rfl; have hfz22_0 := blk_frozen BK205.out 0; have hfz22_1 := blk_frozen BK205.out 1; have hfz22_2 := blk_frozen BK205.out 2; have hfz22_3 := blk_frozen BK205.out 3; have hfz22_4 := blk_frozen BK205.out 4; have hfz22_5 := blk_frozen BK205.out 5))
           have n0_ : Aside0 (((((((w21.setCell ⟨gb205, 0, none⟩ (.string ((rd_T55 l0 x7_1).f0.f0))).setCell ⟨gb205, 1, none⟩ (.string ((rd_T55 l0 x7_1).f0.f1))).setCell ⟨gb205, 2, none⟩ (.string ((rd_T55 l0 x7_1).f0.f2))).setCell ⟨gb205, 3, none⟩ (.string ((rd_T55 l0 x7_1).f0.f3))).setCell ⟨gb205, 4, none⟩ (.int .i64 ((rd_T55 l0 x7_1).f0.f4))).setCell ⟨gb205, 5, none⟩ (.int .i64 ((rd_T55 l0 x7_1).f1))).heap[gb205]? = some (.cells #[.string ((rd_T55 l0 x7_1).f0.f0), .string ((rd_T55 l0 x7_1).f0.f1), .string ((rd_T55 l0 x7_1).f0.f2), .string ((rd_T55 l0 x7_1).f0.f3), .int .i64 ((rd_T55 l0 x7_1).f0.f4), .int .i64 ((rd_T55 l0 x7_1).f1)] 55 (0, 0))) := ⟨by (with_reducible repeat (first | refine blk_drewN ?_ _ | refine blk_drew ?_ | refine blk_alloc ?_ _)); refine blk_put (cs := #[.string ((rd_T55 l0 x7_1).f0.f0), .string ((rd_T55 l0 x7_1).f0.f1), .string ((rd_T55 l0 x7_1).f0.f2), .string ((rd_T55 l0 x7_1).f0.f3), .int .i64 ((rd_T55 l0 x7_1).f0.f4), .int .i64 0]) ?_ 5 _ rfl; (with_reducible repeat (first | refine blk_drewN ?_ _ | refine blk_drew ?_ | refine blk_alloc ?_ _)); refine blk_put (cs := #[.string ((rd_T55 l0 x7_1).f0.f0), .string ((rd_T55 l0 x7_1).f0.f1), .string ((rd_T55 l0 x7_1).f0.f2), .string ((rd_T55 l0 x7_1).f0.f3), .int .i64 0, .int .i64 0]) ?_ 4 _ rfl; (with_reducible repeat (first | refine blk_drewN ?_ _ | refine blk_drew ?_ | refine blk_alloc ?_ _)); refine blk_put (cs := #[.string ((rd_T55 l0 x7_1).f0.f0), .string ((rd_T55 l0 x7_1).f0.f1), .string ((rd_T55 l0 x7_1).f0.f2), .string (⟨#[]⟩ : ByteArray), .int .i64 0, .int .i64 0]) ?_ 3 _ rfl; (with_reducible repeat (first | refine blk_drewN ?_ _ | refine blk_drew ?_ | refine blk_alloc ?_ _)); refine blk_put (cs := #[.string ((rd_T55 l0 x7_1).f0.f0), .string ((rd_T55 l0 x7_1).f0.f1), .string (⟨#[]⟩ : ByteArray), .string (⟨#[]⟩ : ByteArray), .int .i64 0, .int .i64 0]) ?_ 2 _ rfl; (with_reducible repeat (first | refine blk_drewN ?_ _ | refine blk_drew ?_ | refine blk_alloc ?_ _)); refine blk_put (cs := #[.string ((rd_T55 l0 x7_1).f0.f0), .string (⟨#[]⟩ : ByteArray), .string (⟨#[]⟩ : ByteArray), .string (⟨#[]⟩ : ByteArray), .int .i64 0, .int .i64 0]) ?_ 1 _ rfl; (with_reducible repeat (first | refine blk_drewN ?_ _ | refine blk_drew ?_ | refine blk_alloc ?_ _)); refine blk_put (cs := #[.string (⟨#[]⟩ : ByteArray), .string (⟨#[]⟩ : ByteArray), .string (⟨#[]⟩ : ByteArray), .string (⟨#[]⟩ : ByteArray), .int .i64 0, .int .i64 0]) ?_ 0 _ rfl; (with_reducible repeat (first | refine blk_drewN ?_ _ | refine blk_drew ?_ | refine blk_alloc ?_ _)); exact BK205.out⟩
           have n1_ : Aside0 (Below w.heap.size w ((((((w21.setCell ⟨gb205, 0, none⟩ (.string ((rd_T55 l0 x7_1).f0.f0))).setCell ⟨gb205, 1, none⟩ (.string ((rd_T55 l0 x7_1).f0.f1))).setCell ⟨gb205, 2, none⟩ (.string ((rd_T55 l0 x7_1).f0.f2))).setCell ⟨gb205, 3, none⟩ (.string ((rd_T55 l0 x7_1).f0.f3))).setCell ⟨gb205, 4, none⟩ (.int .i64 ((rd_T55 l0 x7_1).f0.f4))).setCell ⟨gb205, 5, none⟩ (.int .i64 ((rd_T55 l0 x7_1).f1)))) := ⟨by repeat (first | (with_reducible first | exact HB.out | apply below_alloc | apply pw_below_drewN | apply below_drew1 | refine below_set ?_ GE205.out) | exact HB.out)⟩
           (try clear BK205)
           (try clear HB)
           generalize ((((((w21.setCell ⟨gb205, 0, none⟩ (.string ((rd_T55 l0 x7_1).f0.f0))).setCell ⟨gb205, 1, none⟩ (.string ((rd_T55 l0 x7_1).f0.f1))).setCell ⟨gb205, 2, none⟩ (.string ((rd_T55 l0 x7_1).f0.f2))).setCell ⟨gb205, 3, none⟩ (.string ((rd_T55 l0 x7_1).f0.f3))).setCell ⟨gb205, 4, none⟩ (.int .i64 ((rd_T55 l0 x7_1).f0.f4))).setCell ⟨gb205, 5, none⟩ (.int .i64 ((rd_T55 l0 x7_1).f1))) = w23 at n0_ n1_ ⊢
           have BK205 := n0_
           have HB := n1_
           clear n0_ n1_
           have n0_ := Aside0.mk (blk_drew BK205.out)
           have n1_ := Aside0.mk (below_drew1 HB.out)
           clear BK205
           clear HB
           have BK205 := n0_
           have HB := n1_
           clear n0_ n1_
           have p206 : 0 ≤ ((ji11) : Int) := of_decide_eq_true as_
           have q206 : (ji11) < (l0.length : Int) := of_decide_eq_true as_
           obtain ⟨ad206, e206, hx206_0, hx206_1, hx206_2, hx206_3, hx206_4, hx206_5⟩ := at_T55 HR0.out (ji11) p206 q206
           have hw206_5 := hx206_5
           have hw206_4 := hx206_4
           have hw206_3 := hx206_3
           have hw206_2 := hx206_2
           have hw206_1 := hx206_1
           have hw206_0 := hx206_0
           obtain rfl : ad204 = ad206 := (by injection e206)
           replace hx206_0 := cb HB hx206_0
           replace hx206_1 := cb HB hx206_1
           replace hx206_2 := cb HB hx206_2
           replace hx206_3 := cb HB hx206_3
           replace hx206_4 := cb HB hx206_4
           replace hx206_5 := cb HB hx206_5
           replace p206 := eq_true p206
           replace q206 := eq_true q206
           refine start_ (n := 19) (S := fun w' => w'.cell? ⟨gb205, 0, none⟩ = some (.string ((rd_T55 l0 x7_1).f0.f0)) ∧ w'.cell? ⟨gb205, 1, none⟩ = some (.string ((rd_T55 l0 x7_1).f0.f1)) ∧ w'.cell? ⟨gb205, 2, none⟩ = some (.string ((rd_T55 l0 x7_1).f0.f2)) ∧ w'.cell? ⟨gb205, 3, none⟩ = some (.string ((rd_T55 l0 x7_1).f0.f3)) ∧ w'.cell? ⟨gb205, 4, none⟩ = some (.int .i64 ((rd_T55 l0 x7_1).f0.f4)) ∧ w'.cell? ⟨gb205, 5, none⟩ = some (.int .i64 ((rd_T55 l0 x7_1).f1)) ∧ w'.cell? (ad204.add (((ji11)).toNat * 6)) = some (.string ((rd_T55 l0 (ji11)).f0.f0)) ∧ w'.cell? ⟨(ad204.add (((ji11)).toNat * 6)).block, (ad204.add (((ji11)).toNat * 6)).off + 1, none⟩ = some (.string ((rd_T55 l0 (ji11)).f0.f1)) ∧ w'.cell? ⟨(ad204.add (((ji11)).toNat * 6)).block, (ad204.add (((ji11)).toNat * 6)).off + 2, none⟩ = some (.string ((rd_T55 l0 (ji11)).f0.f2)) ∧ w'.cell? ⟨(ad204.add (((ji11)).toNat * 6)).block, (ad204.add (((ji11)).toNat * 6)).off + 3, none⟩ = some (.string ((rd_T55 l0 (ji11)).f0.f3)) ∧ w'.cell? ⟨(ad204.add (((ji11)).toNat * 6)).block, (ad204.add (((ji11)).toNat * 6)).off + 4, none⟩ = some (.int .i64 ((rd_T55 l0 (ji11)).f0.f4)) ∧ w'.cell? ⟨(ad204.add (((ji11)).toNat * 6)).block, (ad204.add (((ji11)).toNat * 6)).off + 5, none⟩ = some (.int .i64 ((rd_T55 l0 (ji11)).f1))) (ds := []) #[false, false, false, false, false, false, false, false, false, false, false, false, false, false, false, false, false, false, false] (by kernel_rfl) rfl rfl ⟨(blk_cell BK205.out 0).trans rfl, (blk_cell BK205.out 1).trans rfl, (blk_cell BK205.out 2).trans rfl, (blk_cell BK205.out 3).trans rfl, (blk_cell BK205.out 4).trans rfl, (blk_cell BK205.out 5).trans rfl, (cb HB hw206_0), (cb HB hw206_1), (cb HB hw206_2), (cb HB hw206_3), (cb HB hw206_4), (cb HB hw206_5)⟩ (fun hHeld => ?_); refine with_tabW fact_Right.tab4 fact_Right.bits4 (fun HT_ HW_ => ?_)
           generalize w23.drew = w24 at BK205 HB hx206_0 hx206_1 hx206_2 hx206_3 hx206_4 hx206_5 hHeld ⊢
           refine pure_ (i := 0) (N := some 12) (v := ?_) (a' := ?_) #[true, false, false, false, false, false, false, false, false, false, false, false, false, false, false, false, false, false, false] rfl rfl (any_of HT_.out (by kernel_rfl)) (fun _ _ _ h => h) (Or.inl ⟨by rfl, ?_⟩) ?_ ?_
           rotate_left
           ·intro w'
            go_simp
            with_reducible rfl
           rotate_left
           ·simp only [Act.put, List.setIfInBounds_toArray, List.set_cons_zero, List.set_cons_succ, i64_w, i32_w]
            rfl
           refine take_ (i := 1) (N := some 13) (v := ?_) (a' := ?_) #[true, true, false, false, false, false, false, false, false, false, false, false, false, false, false, false, false, false, false] rfl rfl (take_ofW HT_.out HW_.out (by kernel_rfl)) (fun _ _ _ h => h) (Or.inl ⟨by rfl, ?_⟩) hHeld ?_ ?_
           rotate_left
           ·rintro w' ⟨s0, s1, s2, s3, s4, s5, s6, s7, s8, s9, s10, s11⟩
            go_simp
            with_reducible rfl
           rotate_left
           ·simp only [Act.put, List.setIfInBounds_toArray, List.set_cons_zero, List.set_cons_succ, i64_w, i32_w]
            rfl
           refine pure_ (i := 2) (N := some 14) (v := ?_) (a' := ?_) #[true, true, true, false, false, false, false, false, false, false, false, false, false, false, false, false, false, false, false] rfl rfl (any_of HT_.out (by kernel_rfl)) (fun _ _ _ h => h) (Or.inl ⟨by rfl, ?_⟩) ?_ ?_
           rotate_left
           ·intro w'
            go_simp
            with_reducible rfl
           rotate_left
           ·simp only [Act.put, List.setIfInBounds_toArray, List.set_cons_zero, List.set_cons_succ, i64_w, i32_w]
            rfl
           refine pure_ (i := 3) (N := some 15) (v := ?_) (a' := ?_) #[true, true, true, true, false, false, false, false, false, false, false, false, false, false, false, false, false, false, false] rfl rfl (any_of HT_.out (by kernel_rfl)) (fun _ _ _ h => h) (Or.inl ⟨by rfl, ?_⟩) ?_ ?_
           rotate_left
           ·intro w'
            go_simp
            with_reducible rfl
           rotate_left
           ·simp only [Act.put, List.setIfInBounds_toArray, List.set_cons_zero, List.set_cons_succ, i64_w, i32_w]
            rfl
           refine pure_ (i := 4) (N := some 16) (v := ?_) (a' := ?_) #[true, true, true, true, true, false, false, false, false, false, false, false, false, false, false, false, false, false, false] rfl rfl (any_of HT_.out (by kernel_rfl)) (fun _ _ _ h => h) (Or.inl ⟨by rfl, ?_⟩) ?_ ?_
           rotate_left
           ·intro w'
            go_simp
            with_reducible rfl
           rotate_left
           ·simp only [Act.put, List.setIfInBounds_toArray, List.set_cons_zero, List.set_cons_succ, i64_w, i32_w]
            rfl
           refine pure_ (i := 5) (N := some 17) (v := ?_) (a' := ?_) #[true, true, true, true, true, true, false, false, false, false, false, false, false, false, false, false, false, false, false] rfl rfl (any_of HT_.out (by kernel_rfl)) (fun _ _ _ h => h) (Or.inl ⟨by rfl, ?_⟩) ?_ ?_
           rotate_left
           ·intro w'
            go_simp
            with_reducible rfl
           rotate_left
           ·simp only [Act.put, List.setIfInBounds_toArray, List.set_cons_zero, List.set_cons_succ, i64_w, i32_w]
            rfl
           refine pure_ (i := 6) (N := some 18) (v := ?_) (a' := ?_) #[true, true, true, true, true, true, true, false, false, false, false, false, false, false, false, false, false, false, false] rfl rfl (any_of HT_.out (by kernel_rfl)) (fun _ _ _ h => h) (Or.inl ⟨by rfl, ?_⟩) ?_ ?_
           rotate_left
           ·intro w'
            go_simp
            with_reducible rfl
           rotate_left
           ·simp only [Act.put, List.setIfInBounds_toArray, List.set_cons_zero, List.set_cons_succ, i64_w, i32_w]
            rfl
           refine pure_ (i := 7) (N := some 19) (v := ?_) (a' := ?_) #[true, true, true, true, true, true, true, true, false, false, false, false, false, false, false, false, false, false, false] rfl rfl (any_of HT_.out (by kernel_rfl)) (fun _ _ _ h => h) (Or.inl ⟨by rfl, ?_⟩) ?_ ?_
           rotate_left
           ·intro w'
            go_simp
            with_reducible rfl
           rotate_left
           ·simp only [Act.put, List.setIfInBounds_toArray, List.set_cons_zero, List.set_cons_succ, i64_w, i32_w]
            rfl
           refine pure_ (i := 8) (N := some 20) (v := ?_) (a' := ?_) #[true, true, true, true, true, true, true, true, true, false, false, false, false, false, false, false, false, false, false] rfl rfl (any_of HT_.out (by kernel_rfl)) (fun _ _ _ h => h) (Or.inl ⟨by rfl, ?_⟩) ?_ ?_
           rotate_left
           ·intro w'
            go_simp
            with_reducible rfl
           rotate_left
           ·simp only [Act.put, List.setIfInBounds_toArray, List.set_cons_zero, List.set_cons_succ, i64_w, i32_w]
            rfl
           refine pure_ (i := 9) (N := some 21) (v := ?_) (a' := ?_) #[true, true, true, true, true, true, true, true, true, true, false, false, false, false, false, false, false, false, false] rfl rfl (any_of HT_.out (by kernel_rfl)) (fun _ _ _ h => h) (Or.inl ⟨by rfl, ?_⟩) ?_ ?_
           rotate_left
           ·intro w'
            go_simp
            with_reducible rfl
           rotate_left
           ·simp only [Act.put, List.setIfInBounds_toArray, List.set_cons_zero, List.set_cons_succ, i64_w, i32_w]
            rfl
           refine pure_ (i := 10) (N := some 22) (v := ?_) (a' := ?_) #[true, true, true, true, true, true, true, true, true, true, true, false, false, false, false, false, false, false, false] rfl rfl (any_of HT_.out (by kernel_rfl)) (fun _ _ _ h => h) (Or.inl ⟨by rfl, ?_⟩) ?_ ?_
           rotate_left
           ·intro w'
            go_simp
            with_reducible rfl
           rotate_left
           ·simp only [Act.put, List.setIfInBounds_toArray, List.set_cons_zero, List.set_cons_succ, i64_w, i32_w]
            rfl
           refine pure_ (i := 11) (N := some 23) (v := ?_) (a' := ?_) #[true, true, true, true, true, true, true, true, true, true, true, true, false, false, false, false, false, false, false] rfl rfl (any_of HT_.out (by kernel_rfl)) (fun _ _ _ h => h) (Or.inl ⟨by rfl, ?_⟩) ?_ ?_
           rotate_left
           ·intro w'
            go_simp
            with_reducible rfl
           rotate_left
           ·simp only [Act.put, List.setIfInBounds_toArray, List.set_cons_zero, List.set_cons_succ, i64_w, i32_w]
            rfl
           refine pure_ (i := 13) (N := some 25) (v := ?_) (a' := ?_) #[true, true, true, true, true, true, true, true, true, true, true, true, false, true, false, false, false, false, false] rfl rfl (any_of HT_.out (by kernel_rfl)) (fun _ _ _ h => h) (Or.inl ⟨by rfl, ?_⟩) ?_ ?_
           rotate_left
           ·intro w'
            go_simp
            with_reducible rfl
           rotate_left
           ·simp only [Act.put, List.setIfInBounds_toArray, List.set_cons_zero, List.set_cons_succ, i64_w, i32_w]
            rfl
           refine take_ (i := 12) (N := some 24) (v := ?_) (a' := ?_) #[true, true, true, true, true, true, true, true, true, true, true, true, true, true, false, false, false, false, false] rfl rfl (take_ofW HT_.out HW_.out (by kernel_rfl)) (fun _ _ _ h => h) (Or.inl ⟨by rfl, ?_⟩) hHeld ?_ ?_
           rotate_left
           ·rintro w' ⟨s0, s1, s2, s3, s4, s5, s6, s7, s8, s9, s10, s11⟩
            go_simp
            with_reducible rfl
           rotate_left
           ·simp only [Act.put, List.setIfInBounds_toArray, List.set_cons_zero, List.set_cons_succ, i64_w, i32_w]
            rfl
           refine take_ (i := 14) (N := some 26) (v := ?_) (a' := ?_) #[true, true, true, true, true, true, true, true, true, true, true, true, true, true, true, false, false, false, false] rfl rfl (take_ofW HT_.out HW_.out (by kernel_rfl)) (fun _ _ _ h => h) (Or.inl ⟨by rfl, ?_⟩) hHeld ?_ ?_
           rotate_left
           ·rintro w' ⟨s0, s1, s2, s3, s4, s5, s6, s7, s8, s9, s10, s11⟩
            go_simp
            with_reducible rfl
           rotate_left
           ·simp only [Act.put, List.setIfInBounds_toArray, List.set_cons_zero, List.set_cons_succ, i64_w, i32_w]
            rfl
           refine one_ (i := 15) (N := some 27) #[true, true, true, true, true, true, true, true, true, true, true, true, true, true, true, true, false, false, false] rfl rfl (one_of HT_.out (by kernel_rfl)) (by decide) (fun K hK => ?_)
           refine goes_ Try.func23 (by kernel_rfl) rfl #[.agg #[.string ((rd_T55 l0 (ji11)).f0.f0), .string ((rd_T55 l0 (ji11)).f0.f1), .string ((rd_T55 l0 (ji11)).f0.f2), .string ((rd_T55 l0 (ji11)).f0.f3), .int .i64 ((rd_T55 l0 (ji11)).f0.f4)], .agg #[.string ((rd_T55 l0 x7_1).f0.f0), .string ((rd_T55 l0 x7_1).f0.f1), .string ((rd_T55 l0 x7_1).f0.f2), .string ((rd_T55 l0 x7_1).f0.f3), .int .i64 ((rd_T55 l0 x7_1).f0.f4)]] (by rfl) rfl rfl (by (try simp only [List.map_toArray, List.map_cons, List.map_nil]); first | done | (simp only [hji11]; rfl) | rfl | (simp only [List.length_drop, List.length_take]; rfl)) ?_
           with_reducible refine (fact_Cmp.calls k1 ((rd_T55 l0 (ji11)).f0.f0) ((rd_T55 l0 (ji11)).f0.f1) ((rd_T55 l0 (ji11)).f0.f2) ((rd_T55 l0 (ji11)).f0.f3) ((rd_T55 l0 (ji11)).f0.f4) ((rd_T55 l0 x7_1).f0.f0) ((rd_T55 l0 x7_1).f0.f1) ((rd_T55 l0 x7_1).f0.f2) ((rd_T55 l0 x7_1).f0.f3) ((rd_T55 l0 x7_1).f0.f4) t207 _ A14.out).mono ?_
           rintro e w25 ⟨rfl, hb⟩
           refine ⟨_, rfl, ?_⟩
           have n0_ := Aside0.mk (blk_below (g := gb205) (o := .cells #[.string ((rd_T55 l0 x7_1).f0.f0), .string ((rd_T55 l0 x7_1).f0.f1), .string ((rd_T55 l0 x7_1).f0.f2), .string ((rd_T55 l0 x7_1).f0.f3), .int .i64 ((rd_T55 l0 x7_1).f0.f4), .int .i64 ((rd_T55 l0 x7_1).f1)] 55 (0, 0)) (by (with_reducible repeat (first | refine blk_drewN ?_ _ | refine blk_drew ?_ | refine blk_alloc ?_ _)); exact BK205.out) hb)
           have n1_ := Aside0.mk (below_step (by repeat (first | (with_reducible first | exact HB.out | apply below_alloc | apply pw_below_drewN | apply below_drew1 | refine below_set ?_ GE205.out) | exact HB.out)) hb)
           clear BK205
           clear HB
           have BK205 := n0_
           have HB := n1_
           clear n0_ n1_
           (try clear hb)
           (try clear hb2)
           (try clear hk)
           (try clear hi)
           refine hK.out _ _ ⟨(blk_cell BK205.out 0).trans rfl, (blk_cell BK205.out 1).trans rfl, (blk_cell BK205.out 2).trans rfl, (blk_cell BK205.out 3).trans rfl, (blk_cell BK205.out 4).trans rfl, (blk_cell BK205.out 5).trans rfl, (cb HB hw206_0), (cb HB hw206_1), (cb HB hw206_2), (cb HB hw206_3), (cb HB hw206_4), (cb HB hw206_5)⟩ (fun hHeld => ?_)
           clear hK K
           refine norm_ (a' := ?_) ?_ ?_
           rotate_left
           ·show Act.put _ (some 27) _ = _
            simp only [Act.put, List.setIfInBounds_toArray, List.set_cons_zero, List.set_cons_succ, i64_w, i32_w]
            rfl
           refine pure_ (i := 16) (N := some 28) (v := ?_) (a' := ?_) #[true, true, true, true, true, true, true, true, true, true, true, true, true, true, true, true, true, false, false] rfl rfl (any_of HT_.out (by kernel_rfl)) (fun _ _ _ h => h) (Or.inl ⟨by rfl, ?_⟩) ?_ ?_
           rotate_left
           ·intro w'
            go_simp
            with_reducible rfl
           rotate_left
           ·simp only [Act.put, List.setIfInBounds_toArray, List.set_cons_zero, List.set_cons_succ, i64_w, i32_w]
            rfl
           refine pure_ (i := 17) (N := some 29) (v := ?_) (a' := ?_) #[true, true, true, true, true, true, true, true, true, true, true, true, true, true, true, true, true, true, false] rfl rfl (any_of HT_.out (by kernel_rfl)) (fun _ _ _ h => h) (Or.inl ⟨by rfl, ?_⟩) ?_ ?_
           rotate_left
           ·intro w'
            go_simp
            with_reducible rfl
           rotate_left
           ·simp only [Act.put, List.setIfInBounds_toArray, List.set_cons_zero, List.set_cons_succ, i64_w, i32_w]
            rfl
           refine pure_ (i := 18) (N := some 30) (v := ?_) (a' := ?_) #[true, true, true, true, true, true, true, true, true, true, true, true, true, true, true, true, true, true, true] rfl rfl (any_of HT_.out (by kernel_rfl)) (fun _ _ _ h => h) (Or.inl ⟨by rfl, ?_⟩) ?_ ?_
           rotate_left
           ·intro w'
            go_simp
            with_reducible rfl
           rotate_left
           ·simp only [Act.put, List.setIfInBounds_toArray, List.set_cons_zero, List.set_cons_succ, i64_w, i32_w]
            rfl
           refine done_ (done_of HT_.out (by kernel_rfl)) ?_
           try go_wp2
           go_roundg k1
           case measure => have := HK1.out; omega
           case rel => exact ⟨(wrap64 (x7_1 + 1)), rs_, H', ⟨by have := HK1.out; omega⟩, ⟨by repeat (first | (with_reducible first | exact HB.out | apply below_alloc | apply pw_below_drewN | apply below_drew1 | refine below_set ?_ GE205.out) | exact HB.out)⟩⟩
         ·rw [if_neg c13] at H
          exact absurd H (by simp)
        ·rw [if_neg c12] at H
         exact absurd H (by simp)
       ·rw [if_neg c10] at H
        have c10b0 : decide (0 < x7_1) = false := decide_eq_false c10
        clear c10
        have H' := Aside0.mk H
        clear H
        have p204 : 0 ≤ (x7_1 : Int) := of_decide_eq_true as_
        have q204 : x7_1 < (l0.length : Int) := of_decide_eq_true as_
        obtain ⟨ad204, e204, hx204_0, hx204_1, hx204_2, hx204_3, hx204_4, hx204_5⟩ := at_T55 HR0.out x7_1 p204 q204
        cases e204
        replace hx204_0 := cb HB hx204_0
        replace hx204_1 := cb HB hx204_1
        replace hx204_2 := cb HB hx204_2
        replace hx204_3 := cb HB hx204_3
        replace hx204_4 := cb HB hx204_4
        replace hx204_5 := cb HB hx204_5
        replace p204 := eq_true p204
        replace q204 := eq_true q204
        try go_wp2_with (first | ((with_reducible refine gate_dst (N := 4) rfl ?_); refine box_event ?hg (N := 4) ?hd (cs := #[.string (⟨#[]⟩ : ByteArray), .string (⟨#[]⟩ : ByteArray), .string (⟨#[]⟩ : ByteArray), .string (⟨#[]⟩ : ByteArray), .int .i64 0, .int .i64 0]) (t := 55) ?hr ?_; (case hd => rfl); (case hg => rfl); (case hr => first | (go_simp; done) | (go_simp; rfl)); intro gb205 hg w26 hbox hb; have n0_ := Aside0.mk (below_step bw hb); have n1_ := Aside0.mk (hbox); have n2_ := Aside0.mk ((by rw [hg]; exact (below_size bw) : w.heap.size ≤ gb205)); have n3_ := Aside0.mk ((by rw [hg]; exact (below_size bw) : w.heap.size ≤ gb205)); clear HB; have HB := n0_; have BK205 := n1_; have GW205 := n2_; have GE205 := n3_; clear n0_ n1_ n2_ n3_; clear hb hbox hg; have hcz27_0 : w26.cell? ⟨gb205, 0, none⟩ = some (.string (⟨#[]⟩ : ByteArray)) := (blk_cell BK205.out 0).trans rfl; have hcz27_1 : w26.cell? ⟨gb205, 1, none⟩ = some (.string (⟨#[]⟩ : ByteArray)) := (blk_cell BK205.out 1).trans rfl; have hcz27_2 : w26.cell? ⟨gb205, 2, none⟩ = some (.string (⟨#[]⟩ : ByteArray)) := (blk_cell BK205.out 2).trans rfl; have hcz27_3 : w26.cell? ⟨gb205, 3, none⟩ = some (.string (⟨#[]⟩ : ByteArray)) := (blk_cell BK205.out 3).trans rfl; have hcz27_4 : w26.cell? ⟨gb205, 4, none⟩ = some (.int .i64 0) := (blk_cell BK205.out 4).trans rfl; have hcz27_5 : w26.cell? ⟨gb205, 5, none⟩ = some (.int .i64 0) := (blk_cell BK205.out 5).trans rfl; have hfz27_0 := blk_frozen BK205.out 0; have hfz27_1 := blk_frozen BK205.out 1; have hfz27_2 := blk_frozen BK205.out 2; have hfz27_3 := blk_frozen BK205.out 3; have hfz27_4 := blk_frozen BK205.out 4; have hfz27_5 := blk_frozen BK205.out 5))
        have n0_ : Aside0 (((((((w26.setCell ⟨gb205, 0, none⟩ (.string ((rd_T55 l0 x7_1).f0.f0))).setCell ⟨gb205, 1, none⟩ (.string ((rd_T55 l0 x7_1).f0.f1))).setCell ⟨gb205, 2, none⟩ (.string ((rd_T55 l0 x7_1).f0.f2))).setCell ⟨gb205, 3, none⟩ (.string ((rd_T55 l0 x7_1).f0.f3))).setCell ⟨gb205, 4, none⟩ (.int .i64 ((rd_T55 l0 x7_1).f0.f4))).setCell ⟨gb205, 5, none⟩ (.int .i64 ((rd_T55 l0 x7_1).f1))).heap[gb205]? = some (.cells #[.string ((rd_T55 l0 x7_1).f0.f0), .string ((rd_T55 l0 x7_1).f0.f1), .string ((rd_T55 l0 x7_1).f0.f2), .string ((rd_T55 l0 x7_1).f0.f3), .int .i64 ((rd_T55 l0 x7_1).f0.f4), .int .i64 ((rd_T55 l0 x7_1).f1)] 55 (0, 0))) := ⟨by (with_reducible repeat (first | refine blk_drewN ?_ _ | refine blk_drew ?_ | refine blk_alloc ?_ _)); refine blk_put (cs := #[.string ((rd_T55 l0 x7_1).f0.f0), .string ((rd_T55 l0 x7_1).f0.f1), .string ((rd_T55 l0 x7_1).f0.f2), .string ((rd_T55 l0 x7_1).f0.f3), .int .i64 ((rd_T55 l0 x7_1).f0.f4), .int .i64 0]) ?_ 5 _ rfl; (with_reducible repeat (first | refine blk_drewN ?_ _ | refine blk_drew ?_ | refine blk_alloc ?_ _)); refine blk_put (cs := #[.string ((rd_T55 l0 x7_1).f0.f0), .string ((rd_T55 l0 x7_1).f0.f1), .string ((rd_T55 l0 x7_1).f0.f2), .string ((rd_T55 l0 x7_1).f0.f3), .int .i64 0, .int .i64 0]) ?_ 4 _ rfl; (with_reducible repeat (first | refine blk_drewN ?_ _ | refine blk_drew ?_ | refine blk_alloc ?_ _)); refine blk_put (cs := #[.string ((rd_T55 l0 x7_1).f0.f0), .string ((rd_T55 l0 x7_1).f0.f1), .string ((rd_T55 l0 x7_1).f0.f2), .string (⟨#[]⟩ : ByteArray), .int .i64 0, .int .i64 0]) ?_ 3 _ rfl; (with_reducible repeat (first | refine blk_drewN ?_ _ | refine blk_drew ?_ | refine blk_alloc ?_ _)); refine blk_put (cs := #[.string ((rd_T55 l0 x7_1).f0.f0), .string ((rd_T55 l0 x7_1).f0.f1), .string (⟨#[]⟩ : ByteArray), .string (⟨#[]⟩ : ByteArray), .int .i64 0, .int .i64 0]) ?_ 2 _ rfl; (with_reducible repeat (first | refine blk_drewN ?_ _ | refine blk_drew ?_ | refine blk_alloc ?_ _)); refine blk_put (cs := #[.string ((rd_T55 l0 x7_1).f0.f0), .string (⟨#[]⟩ : ByteArray), .string (⟨#[]⟩ : ByteArray), .string (⟨#[]⟩ : ByteArray), .int .i64 0, .int .i64 0]) ?_ 1 _ rfl; (with_reducible repeat (first | refine blk_drewN ?_ _ | refine blk_drew ?_ | refine blk_alloc ?_ _)); refine blk_put (cs := #[.string (⟨#[]⟩ : ByteArray), .string (⟨#[]⟩ : ByteArray), .string (⟨#[]⟩ : ByteArray), .string (⟨#[]⟩ : ByteArray), .int .i64 0, .int .i64 0]) ?_ 0 _ rfl; (with_reducible repeat (first | refine blk_drewN ?_ _ | refine blk_drew ?_ | refine blk_alloc ?_ _)); exact BK205.out⟩
        have n1_ : Aside0 (Below w.heap.size w ((((((w26.setCell ⟨gb205, 0, none⟩ (.string ((rd_T55 l0 x7_1).f0.f0))).setCell ⟨gb205, 1, none⟩ (.string ((rd_T55 l0 x7_1).f0.f1))).setCell ⟨gb205, 2, none⟩ (.string ((rd_T55 l0 x7_1).f0.f2))).setCell ⟨gb205, 3, none⟩ (.string ((rd_T55 l0 x7_1).f0.f3))).setCell ⟨gb205, 4, none⟩ (.int .i64 ((rd_T55 l0 x7_1).f0.f4))).setCell ⟨gb205, 5, none⟩ (.int .i64 ((rd_T55 l0 x7_1).f1)))) := ⟨by repeat (first | (with_reducible first | exact HB.out | apply below_alloc | apply pw_below_drewN | apply below_drew1 | refine below_set ?_ GE205.out) | exact HB.out)⟩
        (try clear BK205)
        (try clear HB)
        generalize ((((((w26.setCell ⟨gb205, 0, none⟩ (.string ((rd_T55 l0 x7_1).f0.f0))).setCell ⟨gb205, 1, none⟩ (.string ((rd_T55 l0 x7_1).f0.f1))).setCell ⟨gb205, 2, none⟩ (.string ((rd_T55 l0 x7_1).f0.f2))).setCell ⟨gb205, 3, none⟩ (.string ((rd_T55 l0 x7_1).f0.f3))).setCell ⟨gb205, 4, none⟩ (.int .i64 ((rd_T55 l0 x7_1).f0.f4))).setCell ⟨gb205, 5, none⟩ (.int .i64 ((rd_T55 l0 x7_1).f1))) = w28 at n0_ n1_ ⊢
        have BK205 := n0_
        have HB := n1_
        clear n0_ n1_
        have n0_ := Aside0.mk (blk_drew BK205.out)
        have n1_ := Aside0.mk (below_drew1 HB.out)
        clear BK205
        clear HB
        have BK205 := n0_
        have HB := n1_
        clear n0_ n1_
        refine start_ (n := 19) (S := fun w' => w'.cell? ⟨gb205, 0, none⟩ = some (.string ((rd_T55 l0 x7_1).f0.f0)) ∧ w'.cell? ⟨gb205, 1, none⟩ = some (.string ((rd_T55 l0 x7_1).f0.f1)) ∧ w'.cell? ⟨gb205, 2, none⟩ = some (.string ((rd_T55 l0 x7_1).f0.f2)) ∧ w'.cell? ⟨gb205, 3, none⟩ = some (.string ((rd_T55 l0 x7_1).f0.f3)) ∧ w'.cell? ⟨gb205, 4, none⟩ = some (.int .i64 ((rd_T55 l0 x7_1).f0.f4)) ∧ w'.cell? ⟨gb205, 5, none⟩ = some (.int .i64 ((rd_T55 l0 x7_1).f1))) (ds := []) #[false, false, false, false, false, false, false, false, false, false, false, false, false, false, false, false, false, false, false] (by kernel_rfl) rfl rfl ⟨(blk_cell BK205.out 0).trans rfl, (blk_cell BK205.out 1).trans rfl, (blk_cell BK205.out 2).trans rfl, (blk_cell BK205.out 3).trans rfl, (blk_cell BK205.out 4).trans rfl, (blk_cell BK205.out 5).trans rfl⟩ (fun hHeld => ?_); refine with_tabW fact_Right.tab4 fact_Right.bits4 (fun HT_ HW_ => ?_)
        generalize w28.drew = w29 at BK205 HB hHeld ⊢
        refine pure_ (i := 0) (N := some 12) (v := ?_) (a' := ?_) #[true, false, false, false, false, false, false, false, false, false, false, false, false, false, false, false, false, false, false] rfl rfl (any_of HT_.out (by kernel_rfl)) (fun _ _ _ h => h) (Or.inl ⟨by rfl, ?_⟩) ?_ ?_
        rotate_left
        ·intro w'
         go_simp
         with_reducible rfl
        rotate_left
        ·simp only [Act.put, List.setIfInBounds_toArray, List.set_cons_zero, List.set_cons_succ, i64_w, i32_w]
         rfl
        refine take_ (i := 1) (N := some 13) (v := ?_) (a' := ?_) #[true, true, false, false, false, false, false, false, false, false, false, false, false, false, false, false, false, false, false] rfl rfl (take_ofW HT_.out HW_.out (by kernel_rfl)) (fun _ _ _ h => h) (Or.inl ⟨by rfl, ?_⟩) hHeld ?_ ?_
        rotate_left
        ·rintro w' ⟨s0, s1, s2, s3, s4, s5⟩
         go_simp
         with_reducible rfl
        rotate_left
        ·simp only [Act.put, List.setIfInBounds_toArray, List.set_cons_zero, List.set_cons_succ, i64_w, i32_w]
         rfl
        refine pure_ (i := 2) (N := some 14) (v := ?_) (a' := ?_) #[true, true, true, false, false, false, false, false, false, false, false, false, false, false, false, false, false, false, false] rfl rfl (any_of HT_.out (by kernel_rfl)) (fun _ _ _ h => h) (Or.inl ⟨by rfl, ?_⟩) ?_ ?_
        rotate_left
        ·intro w'
         go_simp
         with_reducible rfl
        rotate_left
        ·simp only [Act.put, List.setIfInBounds_toArray, List.set_cons_zero, List.set_cons_succ, i64_w, i32_w]
         rfl
        refine pure_ (i := 3) (N := some 15) (v := ?_) (a' := ?_) #[true, true, true, true, false, false, false, false, false, false, false, false, false, false, false, false, false, false, false] rfl rfl (any_of HT_.out (by kernel_rfl)) (fun _ _ _ h => h) (Or.inl ⟨by rfl, ?_⟩) ?_ ?_
        rotate_left
        ·intro w'
         go_simp
         with_reducible rfl
        rotate_left
        ·simp only [Act.put, List.setIfInBounds_toArray, List.set_cons_zero, List.set_cons_succ, i64_w, i32_w]
         rfl
        refine pure_ (i := 4) (N := some 16) (v := ?_) (a' := ?_) #[true, true, true, true, true, false, false, false, false, false, false, false, false, false, false, false, false, false, false] rfl rfl (any_of HT_.out (by kernel_rfl)) (fun _ _ _ h => h) (Or.inl ⟨by rfl, ?_⟩) ?_ ?_
        rotate_left
        ·intro w'
         go_simp
         with_reducible rfl
        rotate_left
        ·simp only [Act.put, List.setIfInBounds_toArray, List.set_cons_zero, List.set_cons_succ, i64_w, i32_w]
         rfl
        refine pure_ (i := 5) (N := some 17) (v := ?_) (a' := ?_) #[true, true, true, true, true, true, false, false, false, false, false, false, false, false, false, false, false, false, false] rfl rfl (any_of HT_.out (by kernel_rfl)) (fun _ _ _ h => h) (Or.inl ⟨by rfl, ?_⟩) ?_ ?_
        rotate_left
        ·intro w'
         go_simp
         with_reducible rfl
        rotate_left
        ·simp only [Act.put, List.setIfInBounds_toArray, List.set_cons_zero, List.set_cons_succ, i64_w, i32_w]
         rfl
        refine pure_ (i := 6) (N := some 18) (v := ?_) (a' := ?_) #[true, true, true, true, true, true, true, false, false, false, false, false, false, false, false, false, false, false, false] rfl rfl (any_of HT_.out (by kernel_rfl)) (fun _ _ _ h => h) (Or.inl ⟨by rfl, ?_⟩) ?_ ?_
        rotate_left
        ·intro w'
         go_simp
         with_reducible rfl
        rotate_left
        ·simp only [Act.put, List.setIfInBounds_toArray, List.set_cons_zero, List.set_cons_succ, i64_w, i32_w]
         rfl
        refine pure_ (i := 7) (N := some 19) (v := undef) (a' := ?_) #[true, true, true, true, true, true, true, true, false, false, false, false, false, false, false, false, false, false, false] rfl rfl (any_of HT_.out (by kernel_rfl)) (fun _ _ _ h => h) (Or.inr ⟨by rfl, rfl⟩) ?_ ?_
        rotate_left
        ·simp only [Act.put, List.setIfInBounds_toArray, List.set_cons_zero, List.set_cons_succ, i64_w, i32_w]
         rfl
        refine pure_ (i := 8) (N := some 20) (v := undef) (a' := ?_) #[true, true, true, true, true, true, true, true, true, false, false, false, false, false, false, false, false, false, false] rfl rfl (any_of HT_.out (by kernel_rfl)) (fun _ _ _ h => h) (Or.inr ⟨by rfl, rfl⟩) ?_ ?_
        rotate_left
        ·simp only [Act.put, List.setIfInBounds_toArray, List.set_cons_zero, List.set_cons_succ, i64_w, i32_w]
         rfl
        refine pure_ (i := 9) (N := some 21) (v := undef) (a' := ?_) #[true, true, true, true, true, true, true, true, true, true, false, false, false, false, false, false, false, false, false] rfl rfl (any_of HT_.out (by kernel_rfl)) (fun _ _ _ h => h) (Or.inr ⟨by rfl, rfl⟩) ?_ ?_
        rotate_left
        ·simp only [Act.put, List.setIfInBounds_toArray, List.set_cons_zero, List.set_cons_succ, i64_w, i32_w]
         rfl
        refine pure_ (i := 10) (N := some 22) (v := undef) (a' := ?_) #[true, true, true, true, true, true, true, true, true, true, true, false, false, false, false, false, false, false, false] rfl rfl (any_of HT_.out (by kernel_rfl)) (fun _ _ _ h => h) (Or.inr ⟨by rfl, rfl⟩) ?_ ?_
        rotate_left
        ·simp only [Act.put, List.setIfInBounds_toArray, List.set_cons_zero, List.set_cons_succ, i64_w, i32_w]
         rfl
        refine pure_ (i := 11) (N := some 23) (v := undef) (a' := ?_) #[true, true, true, true, true, true, true, true, true, true, true, true, false, false, false, false, false, false, false] rfl rfl (any_of HT_.out (by kernel_rfl)) (fun _ _ _ h => h) (Or.inr ⟨by rfl, rfl⟩) ?_ ?_
        rotate_left
        ·simp only [Act.put, List.setIfInBounds_toArray, List.set_cons_zero, List.set_cons_succ, i64_w, i32_w]
         rfl
        refine pure_ (i := 12) (N := some 24) (v := undef) (a' := ?_) #[true, true, true, true, true, true, true, true, true, true, true, true, true, false, false, false, false, false, false] rfl rfl (any_of HT_.out (by kernel_rfl)) (fun _ _ _ h => h) (Or.inr ⟨by rfl, rfl⟩) ?_ ?_
        rotate_left
        ·simp only [Act.put, List.setIfInBounds_toArray, List.set_cons_zero, List.set_cons_succ, i64_w, i32_w]
         rfl
        refine pure_ (i := 13) (N := some 25) (v := undef) (a' := ?_) #[true, true, true, true, true, true, true, true, true, true, true, true, true, true, false, false, false, false, false] rfl rfl (any_of HT_.out (by kernel_rfl)) (fun _ _ _ h => h) (Or.inr ⟨by rfl, rfl⟩) ?_ ?_
        rotate_left
        ·simp only [Act.put, List.setIfInBounds_toArray, List.set_cons_zero, List.set_cons_succ, i64_w, i32_w]
         rfl
        refine pure_ (i := 14) (N := some 26) (v := undef) (a' := ?_) #[true, true, true, true, true, true, true, true, true, true, true, true, true, true, true, false, false, false, false] rfl rfl (any_of HT_.out (by kernel_rfl)) (fun _ _ _ h => h) (Or.inr ⟨by rfl, rfl⟩) ?_ ?_
        rotate_left
        ·simp only [Act.put, List.setIfInBounds_toArray, List.set_cons_zero, List.set_cons_succ, i64_w, i32_w]
         rfl
        refine pure_ (i := 15) (N := some 27) (v := undef) (a' := ?_) #[true, true, true, true, true, true, true, true, true, true, true, true, true, true, true, true, false, false, false] rfl rfl (any_of HT_.out (by kernel_rfl)) (fun _ _ _ h => h) (Or.inr ⟨by rfl, rfl⟩) ?_ ?_
        rotate_left
        ·simp only [Act.put, List.setIfInBounds_toArray, List.set_cons_zero, List.set_cons_succ, i64_w, i32_w]
         rfl
        refine pure_ (i := 16) (N := some 28) (v := undef) (a' := ?_) #[true, true, true, true, true, true, true, true, true, true, true, true, true, true, true, true, true, false, false] rfl rfl (any_of HT_.out (by kernel_rfl)) (fun _ _ _ h => h) (Or.inr ⟨by rfl, rfl⟩) ?_ ?_
        rotate_left
        ·simp only [Act.put, List.setIfInBounds_toArray, List.set_cons_zero, List.set_cons_succ, i64_w, i32_w]
         rfl
        refine pure_ (i := 17) (N := some 29) (v := ?_) (a' := ?_) #[true, true, true, true, true, true, true, true, true, true, true, true, true, true, true, true, true, true, false] rfl rfl (any_of HT_.out (by kernel_rfl)) (fun _ _ _ h => h) (Or.inl ⟨by rfl, ?_⟩) ?_ ?_
        rotate_left
        ·intro w'
         go_simp
         with_reducible rfl
        rotate_left
        ·simp only [Act.put, List.setIfInBounds_toArray, List.set_cons_zero, List.set_cons_succ, i64_w, i32_w]
         rfl
        refine pure_ (i := 18) (N := some 30) (v := ?_) (a' := ?_) #[true, true, true, true, true, true, true, true, true, true, true, true, true, true, true, true, true, true, true] rfl rfl (any_of HT_.out (by kernel_rfl)) (fun _ _ _ h => h) (Or.inl ⟨by rfl, ?_⟩) ?_ ?_
        rotate_left
        ·intro w'
         go_simp
         with_reducible rfl
        rotate_left
        ·simp only [Act.put, List.setIfInBounds_toArray, List.set_cons_zero, List.set_cons_succ, i64_w, i32_w]
         rfl
        refine done_ (done_of HT_.out (by kernel_rfl)) ?_
        try go_wp2
        go_roundg k1
        case measure => have := HK1.out; omega
        case rel => exact ⟨(wrap64 (x7_1 + 1)), rs_, H', ⟨by have := HK1.out; omega⟩, ⟨by repeat (first | (with_reducible first | exact HB.out | apply below_alloc | apply pw_below_drewN | apply below_drew1 | refine below_set ?_ GE205.out) | exact HB.out)⟩⟩
     ·rw [if_neg c4] at H
      exact absurd H (by simp)
    ·rw [if_neg c3] at H
     exact absurd H (by simp)
   ·rw [if_neg c2] at H
    have c2b0 : decide (x7_1 < (l0.length : Int)) = false := decide_eq_false c2
    clear c2
    obtain rfl := Option.some.inj H
    go_wp2
    go_ret
    exact ⟨re_, bw⟩

end Go.Proofs.Ytdckeflggcefbaa.Y
namespace Go.Proofs.Ytdckeflggcefbaa.Y
open Go.RowKit Go.Proofs.YtdckeflggcefbaaW.PrintWords Go.Proofs.YtdckeflggcefbaaW.PrintLast Go.Proofs.YtdckeflggcefbaaW.PrintMore
set_option linter.unusedVariables false
set_option linter.unusedSimpArgs false
def fact_Grow.f (a1 : Int) : Option (List S55) := if 0 ≤ a1 ∧ a1 < 1759218604441 then some [] else none
set_option maxHeartbeats 8000000 in
set_option maxRecDepth 100000 in
theorem fact_Grow.calls (a1 : Int) (r : List (S55)) (w : World) (h : fact_Grow.f a1 = some r) :
    Calls Try.prog 40 #[.slice none 0 0, .int .i64 a1] w fun e w' => ∃ v0_ : Value, e = .returned (v0_) ∧ Kd.R k55 55 w' w.heap.size (fun _ => True) v0_ r ∧ Below w.heap.size w w' := by
  have H : (if 0 ≤ a1 ∧ a1 < 1759218604441 then some ([] : List S55) else none) = some r := h
  clear h
  by_cases c1 : 0 ≤ a1 ∧ a1 < 1759218604441
  case neg => rw [if_neg c1] at H; exact absurd H (by simp)
  rw [if_pos c1] at H
  obtain rfl := Option.some.inj H
  clear H
  obtain ⟨c1, c2⟩ := c1
  have hn : decide (a1 < 0) = false := decide_eq_false (by omega)
  obtain ⟨i55, hi, hzz⟩ := Option.map_eq_some_iff.1 info55
  have cz : ∀ W : World, (Instr.slice 30 (.slice none 0 0) none (some (.int .i64 0)) none).run Try.prog W = .ok (.slice none 0 0) W := fun W => cut_to 30 55 .i64 Try.underlying30 hi none 0 0 0 (by omega) (by omega) (by omega) W
  by_cases c3 : a1 = 0
  · subst c3
    clear hi hzz c1 c2
    go_enter Try.func40, Try.ntmps40
    go_wp2
    go_ret
    exact ⟨_, rfl, Kd.R_nil _ _ _ _ _, Below.refl _ _⟩
  · have hp : decide (0 < a1) = true := decide_eq_true (by omega)
    have C1 := Aside0.mk c1
    have C2 := Aside0.mk c2
    have HI := Aside0.mk hi
    have c4 : 0 < a1 := by omega
    clear hi hzz c3
    go_enter Try.func40, Try.ntmps40
    go_wp2_with ((with_reducible refine gate_builtin (b := .append) (xs := #[.tmp 20, .tmp 21]) rfl ?_); at_builtin; refine Kd.R_append_zeros k55 (w0 := w) w.heap.size rfl (.tmp 20) (.tmp 21) 30 3 55 (.agg #[(.string ⟨#[]⟩), (.string ⟨#[]⟩), (.string ⟨#[]⟩), (.string ⟨#[]⟩), (.int .i64 0), (.int .i64 0)]) 80 rfl Try.underlying30 Try.underlying3 info55 rfl (by decide) (by omega) (.slice none 0 0) ([] : List S55) z55 (a1 : Int) (fun _ => True) rfl rfl (k55_mkM _ _ _ z55) ?aF ?aO C1.out ?aB ?aS ?aL ?_; (case aB => exact Below.refl _ _); (case aF => exact (fun _ _ => trivial)); (case aO => exact Kd.R_nil _ _ _ _ _); (case aS => exact Nat.le_refl _); (case aL => have := C2.out; have := C1.out; simp; omega); intro v272 w8 ho hb hg hat; obtain ⟨A, c, rfl, hl, _⟩ := Kd.R_reads ho; have HO := Aside0.mk ho; have HB := Aside0.mk hb; have cut := cut_to (P := Try.prog) 30 55 .i64 Try.underlying30 HI.out A (([] : List S55) ++ List.replicate a1.toNat z55).length c 0 (by omega) (by omega) hl; clear ho hb hg hat hl)
    go_ret
    refine ⟨_, rfl, ?_, HB.out⟩
    have := Kd.R_take HO.out (m := 0) (by omega)
    simpa using this
end Go.Proofs.Ytdckeflggcefbaa.Y
namespace Go.Proofs.Ytdckeflggcefbaa.Y
open Go.RowKit Go.Proofs.YtdckeflggcefbaaW.PrintWords Go.Proofs.YtdckeflggcefbaaW.PrintLast Go.Proofs.YtdckeflggcefbaaW.PrintMore
attribute [local go_sem] max2_int min2_int max_two min_two max_three min_three max_four min_four   -- for this text's walks alone
set_option linter.unusedVariables false
set_option linter.unusedSimpArgs false

/-! ### fact_Fact_25: function 25 -/
mutual
def fact_Fact_25.l0 : Nat → List (List (S55)) → Int → List (List (S55)) → Int → Int → Option ((List (S55)))
 | 0, _, _, _, _, _ => none
 | k + 1, x0, x3, x9, x10, x11 => if x11 < x10 then (if 0 ≤ x11 then (if x11 < (x9.length : Int) then (if (wrap64 (x3 + ((rd_L4 x9 x11).length : Int))) < 0 then (none) else (fact_Fact_25.l0 k x0 (wrap64 (x3 + ((rd_L4 x9 x11).length : Int))) x9 x10 (wrap64 (x11 + 1)))) else (none)) else (none)) else ((fact_Grow.f x3).bind fun t162 => (fact_Fact_25.l1 k t162 x0 (x0.length : Int) 0))
def fact_Fact_25.l1 : Nat → List (S55) → List (List (S55)) → Int → Int → Option ((List (S55)))
 | 0, _, _, _, _ => none
 | k + 1, x6, x25, x26, x27 => if x27 < x26 then (if 0 ≤ x27 then (if x27 < (x25.length : Int) then (if x6.length + (rd_L4 x25 x27).length < 1759218604441 then (fact_Fact_25.l1 k (x6 ++ (rd_L4 x25 x27)) x25 x26 (wrap64 (x27 + 1))) else (none)) else (none)) else (none)) else (some x6)
end
def fact_Fact_25.f (k : Nat) (l0 : List (List (S55))) : Option ((List (S55))) := fact_Fact_25.l0 k l0 0 l0 (l0.length : Int) 0
theorem fact_Fact_25.mono_l : ∀ k, (∀ y0 y1 y2 y3 y4, LeO (fact_Fact_25.l0 k y0 y1 y2 y3 y4) (fact_Fact_25.l0 (k + 1) y0 y1 y2 y3 y4)) ∧ (∀ y0 y1 y2 y3, LeO (fact_Fact_25.l1 k y0 y1 y2 y3) (fact_Fact_25.l1 (k + 1) y0 y1 y2 y3))
 | 0 => ⟨fun _ _ _ _ _ r h => by simp [fact_Fact_25.l0] at h, fun _ _ _ _ r h => by simp [fact_Fact_25.l1] at h⟩
 | k + 1 => by
  obtain ⟨ih0, ih1⟩ := fact_Fact_25.mono_l k
  refine ⟨?_, ?_⟩
  ·intro y0 y1 y2 y3 y4
   unfold fact_Fact_25.l0
   repeat' first
   | (with_reducible exact ih0 _ _ _ _ _)
   | (with_reducible exact ih1 _ _ _ _)
   | (with_reducible exact LeO.refl _)
   | (with_reducible exact LeO.none _)
   | (with_reducible refine LeO.ite ?_ ?_)
   | (with_reducible refine LeO.bind ?_ (fun _ => ?_))
   | exact ih0 _ _ _ _ _
   | exact ih1 _ _ _ _
   | exact LeO.none _
   | refine LeO.ite ?_ ?_
   | refine LeO.bind ?_ (fun _ => ?_)
  ·intro y0 y1 y2 y3
   unfold fact_Fact_25.l1
   repeat' first
   | (with_reducible exact ih0 _ _ _ _ _)
   | (with_reducible exact ih1 _ _ _ _)
   | (with_reducible exact LeO.refl _)
   | (with_reducible exact LeO.none _)
   | (with_reducible refine LeO.ite ?_ ?_)
   | (with_reducible refine LeO.bind ?_ (fun _ => ?_))
   | exact ih0 _ _ _ _ _
   | exact ih1 _ _ _ _
   | exact LeO.none _
   | refine LeO.ite ?_ ?_
   | refine LeO.bind ?_ (fun _ => ?_)
theorem fact_Fact_25.mono : ∀ a0 k, LeO (fact_Fact_25.f k a0) (fact_Fact_25.f (k + 1) a0) := by
 intro a0 k
 obtain ⟨ih0, ih1⟩ := fact_Fact_25.mono_l k
 unfold fact_Fact_25.f
 repeat' first
   | (with_reducible exact ih0 _ _ _ _ _)
   | (with_reducible exact ih1 _ _ _ _)
   | (with_reducible exact LeO.refl _)
   | (with_reducible exact LeO.none _)
   | (with_reducible refine LeO.ite ?_ ?_)
   | (with_reducible refine LeO.bind ?_ (fun _ => ?_))
   | exact ih0 _ _ _ _ _
   | exact ih1 _ _ _ _
   | exact LeO.none _
   | refine LeO.ite ?_ ?_
   | refine LeO.bind ?_ (fun _ => ?_)
set_option maxHeartbeats 8000000 in
set_option maxRecDepth 100000 in
theorem fact_Fact_25.calls (k : Nat) (A0 : Option Addr) (c0 : Nat) (l0 : List (List (S55))) (r : List (S55)) (w : World) (hr0 : Kd.C (Kd.slice 55 k55) w A0 l0.length l0) (hc0 : l0.length ≤ c0) (h : fact_Fact_25.f k l0 = some r) :
  Calls Try.prog 25 #[.slice A0 l0.length c0] w fun e w' => ∃ v0_ : Value, e = .returned (v0_) ∧ Kd.R k55 55 w' w.heap.size (fun _ => True) v0_ r ∧ Below w.heap.size w w' := by
 have HR0 := Aside0.mk hr0
 have HC0 := Aside0.mk hc0
 clear hr0 hc0
 have HB := Aside0.mk (Below.refl w.heap.size w)
 have H : (fact_Fact_25.l0 k l0 0 l0 (l0.length : Int) 0) = some r := h
 clear h
 have H' := Aside0.mk H
 clear H
 go_enter Try.func25, Try.ntmps25
 go_wp2
 go_loopg [3, 11] k (fun kq v3 v11 w' => ∃ (x3_1 : Int) (x11_1 : Int), v3 = .int .i64 x3_1 ∧ v11 = .int .i64 x11_1 ∧ Aside0 (fact_Fact_25.l0 kq l0 x3_1 l0 (l0.length : Int) x11_1 = some r) ∧ Aside0 (kq ≤ k) ∧ Aside0 (Below w.heap.size w w'))
 case atStart => exact ⟨(0), (0), rs_, rs_, H', ⟨Nat.le_refl _⟩, ⟨bw⟩⟩
 case round =>
  clear H'
  obtain ⟨x3_1, x11_1, rfl, rfl, HA, HK1, HB⟩ := hrel
  cases gk with
  | zero => exact absurd HA.out (by simp [fact_Fact_25.l0])
  | succ k1 =>
   have H := HA.out
   clear HA
   simp only [fact_Fact_25.l0] at H
   by_cases c2 : x11_1 < (l0.length : Int)
   ·rw [if_pos c2] at H
    have c2b0 : decide (x11_1 < (l0.length : Int)) = true := decide_eq_true c2
    clear c2
    by_cases c3 : 0 ≤ x11_1
    ·rw [if_pos c3] at H
     have c3b0 : decide (0 ≤ x11_1) = true := decide_eq_true c3
     clear c3
     by_cases c4 : x11_1 < (l0.length : Int)
     ·rw [if_pos c4] at H
      have c4b0 : decide (x11_1 < (l0.length : Int)) = true := decide_eq_true c4
      clear c4
      by_cases c5 : (wrap64 (x3_1 + ((rd_L4 l0 x11_1).length : Int))) < 0
      ·rw [if_pos c5] at H
       exact absurd H (by simp)
      ·rw [if_neg c5] at H
       have c5b0 : decide ((wrap64 (x3_1 + ((rd_L4 l0 x11_1).length : Int))) < 0) = false := decide_eq_false c5
       clear c5
       have H' := Aside0.mk H
       clear H
       have p161 : 0 ≤ (x11_1 : Int) := of_decide_eq_true as_
       have q161 : x11_1 < (l0.length : Int) := of_decide_eq_true as_
       obtain ⟨ad161, A161_0, c161_0, e161, hx161_0, hl161_0, hi161_0⟩ := at_L4 HR0.out x11_1 p161 q161
       cases e161
       replace hx161_0 := cb HB hx161_0
       have HR161_0 := Aside0.mk hi161_0
       have HC161_0 := Aside0.mk hl161_0
       clear hi161_0 hl161_0
       replace p161 := eq_true p161
       replace q161 := eq_true q161
       go_wp2
       go_roundg k1
       case measure => have := HK1.out; omega
       case rel => exact ⟨(wrap64 (x3_1 + ((rd_L4 l0 x11_1).length : Int))), (wrap64 (x11_1 + 1)), rs_, rs_, H', ⟨by have := HK1.out; omega⟩, ⟨bw⟩⟩
     ·rw [if_neg c4] at H
      exact absurd H (by simp)
    ·rw [if_neg c3] at H
     exact absurd H (by simp)
   ·rw [if_neg c2] at H
    have c2b0 : decide (x11_1 < (l0.length : Int)) = false := decide_eq_false c2
    clear c2
    replace H := Option.bind_eq_some_iff.mp H
    obtain ⟨t162, A60, H⟩ := H
    replace H : (fact_Fact_25.l1 k1 t162 l0 (l0.length : Int) 0) = some r := H
    have A6 := Aside0.mk A60
    clear A60
    have H' := Aside0.mk H
    clear H
    go_wp2_with (first | ((with_reducible refine gate_callee (f := 40) rfl ?_); refine goesL_ (some 24) rfl rfl Try.func40 (by kernel_rfl) rfl #[.slice none 0 0, .int .i64 x3_1] rfl mp_ ?_; (with_reducible refine (fact_Grow.calls  x3_1 t162 _ A6.out).mono ?_); rintro e w7 ⟨v163, rfl, ho0, hb⟩; refine ⟨_, rfl, ?_⟩; have n0_ := Aside0.mk (Kd.R_lower ho0 (below_size bw)); have n1_ := Aside0.mk (below_step bw hb); clear HB; have HO164 := n0_; have HB := n1_; clear n0_ n1_; (try clear hb); (try clear hb2); (try clear hk); (try clear hi); (try clear ho0)))
    go_loopg [6, 27] k1 (fun kq v6 v27 w' => ∃ (x6_2 : List (S55)) (x27_2 : Int), v27 = .int .i64 x27_2 ∧ Aside0 (fact_Fact_25.l1 kq x6_2 l0 (l0.length : Int) x27_2 = some r) ∧ Aside0 (kq ≤ k1) ∧ Aside0 (Kd.R k55 55 w' w.heap.size (fun _ => True) v6 x6_2) ∧ Aside0 (Below w.heap.size w w'))
    case atStart => exact ⟨(t162), (0), rs_, H', ⟨Nat.le_refl _⟩, ⟨by (with_reducible repeat (first | apply Kd.R_alloc | apply Kd.R_drewN | apply Kd.R_drew)); exact HO164.out⟩, ⟨bw⟩⟩
    case round =>
     clear H'
     try clear c1
     try clear p1
     try clear q1
     try clear hx1
     try clear c2
     try clear c2b0
     try clear p2
     try clear c3
     try clear c3b0
     try clear c4
     try clear c4b0
     try clear c5
     try clear c5b0
     try clear p6
     try clear hx161_0
     try clear p161
     try clear q161
     obtain ⟨x6_2, x27_2, rfl, HA, HK2, HO_6, HB⟩ := hrel
     cases gk with
     | zero => exact absurd HA.out (by simp [fact_Fact_25.l1])
     | succ k2 =>
      have H := HA.out
      clear HA
      simp only [fact_Fact_25.l1] at H
      by_cases c8 : x27_2 < (l0.length : Int)
      ·rw [if_pos c8] at H
       have c8b0 : decide (x27_2 < (l0.length : Int)) = true := decide_eq_true c8
       clear c8
       by_cases c9 : 0 ≤ x27_2
       ·rw [if_pos c9] at H
        have c9b0 : decide (0 ≤ x27_2) = true := decide_eq_true c9
        clear c9
        by_cases c10 : x27_2 < (l0.length : Int)
        ·rw [if_pos c10] at H
         have c10b0 : decide (x27_2 < (l0.length : Int)) = true := decide_eq_true c10
         clear c10
         by_cases c11 : x6_2.length + (rd_L4 l0 x27_2).length < 1759218604441
         ·rw [if_pos c11] at H
          have LMc11 := Aside0.mk c11
          clear c11
          obtain ⟨y166, hy166⟩ : ∃ y_ : List (S55), y_ = (x6_2 ++ (rd_L4 l0 x27_2)) := ⟨_, rfl⟩
          replace H : (fact_Fact_25.l1 k2 y166 l0 (l0.length : Int) (wrap64 (x27_2 + 1))) = some r := by first | (rw [hy166]; with_reducible exact H) | (have H2_ := (Option.bind_some _ _).symm.trans H; rw [hy166]; with_reducible exact H2_) | (have H2_ := (Option.bind_some _ _).symm.trans H; with_reducible exact H2_) | with_reducible exact H | (rw [hy166]; exact H) | exact H
          have Ny166 := Aside0.mk hy166
          clear hy166
          have H' := Aside0.mk H
          clear H
          have p165 : 0 ≤ (x27_2 : Int) := of_decide_eq_true as_
          have q165 : x27_2 < (l0.length : Int) := of_decide_eq_true as_
          obtain ⟨ad165, A165_0, c165_0, e165, hx165_0, hl165_0, hi165_0⟩ := at_L4 HR0.out x27_2 p165 q165
          cases e165
          replace hx165_0 := cb HB hx165_0
          have HR165_0 := Aside0.mk hi165_0
          have HC165_0 := Aside0.mk hl165_0
          clear hi165_0 hl165_0
          replace p165 := eq_true p165
          replace q165 := eq_true q165
          go_wp2_with (first | ((with_reducible refine gate_builtin (b := .append) (xs := #[.tmp 31, .tmp 32]) rfl ?_); at_builtin; refine Kd.R_append_rows k55 (w0 := w) w.heap.size rfl (.tmp 31) (.tmp 32) 30 55 (.agg #[(.string ⟨#[]⟩), (.string ⟨#[]⟩), (.string ⟨#[]⟩), (.string ⟨#[]⟩), (.int .i64 0), (.int .i64 0)]) 80 rfl Try.underlying30 info55 rfl (by decide) (by omega) u6 x6_2 (rd_L4 l0 x27_2) _ _ _ (fun _ => True) (fun _ => False) rfl rfl ?aO ?aR (fun _ _ h => h) (fun _ h => h.elim) ?aF ?aB ?aS ?aL ?_; (case aR => repeat (first | exact (Kd.C_below HR165_0.out HB.out) | (with_reducible refine Kd.C_alloc ?_ _) | (with_reducible refine Kd.C_drewN ?_ _) | (with_reducible refine Kd.C_drew ?_))); (case aB => exact bw); (case aF => exact (fun _ _ => trivial)); (case aO => exact (kr HO_6)); (case aS => exact (below_size bw)); (case aL => have := LMc11.out; omega); intro v167 w12 ho hb hg hat; rw [← Ny166.out] at ho; have n0_ := Aside0.mk (hb); have n1_ := Aside0.mk (ho); clear HB; clear HO_6; have HB := n0_; have HO168 := n1_; clear n0_ n1_; clear ho hb hg hat))
          go_roundg k2
          case measure => have := HK1.out; have := HK2.out; omega
          case rel => exact ⟨(y166), (wrap64 (x27_2 + 1)), rs_, H', ⟨by have := HK1.out; have := HK2.out; omega⟩, ⟨by (with_reducible repeat (first | apply Kd.R_alloc | apply Kd.R_drewN | apply Kd.R_drew)); exact HO168.out⟩, ⟨bw⟩⟩
         ·rw [if_neg c11] at H
          exact absurd H (by simp)
        ·rw [if_neg c10] at H
         exact absurd H (by simp)
       ·rw [if_neg c9] at H
        exact absurd H (by simp)
      ·rw [if_neg c8] at H
       have c8b0 : decide (x27_2 < (l0.length : Int)) = false := decide_eq_false c8
       clear c8
       obtain rfl := Option.some.inj H
       go_wp2
       go_ret
       exact ⟨_, by first | rfl | (simp [errW_none, errW_some] <;> rfl) | (simp [*, errW_none, errW_some] <;> rfl), by (with_reducible repeat (first | apply Kd.R_alloc | apply Kd.R_drewN | apply Kd.R_drew)); exact HO_6.out, bw⟩

end Go.Proofs.Ytdckeflggcefbaa.Y
namespace Go.Proofs.Ytdckeflggcefbaa.Y
open Go.RowKit Go.Proofs.YtdckeflggcefbaaW.PrintWords Go.Proofs.YtdckeflggcefbaaW.PrintLast Go.Proofs.YtdckeflggcefbaaW.PrintMore
set_option linter.unusedVariables false
set_option linter.unusedSimpArgs false
theorem rd28_app (P R : List S28) (x : S28) (i : Int) (hi : i = P.length) : rd_T28 (P ++ x :: R) i = x := by
  subst hi; simp [rd_T28, List.getD_eq_getElem?_getD]
def toT (x : S28) : S55 := ⟨⟨x.f0.f0, x.f0.f1, x.f0.f2, x.f0.f3, x.f0.f4⟩, x.f1⟩
def toO (x : S55) : S28 := ⟨⟨x.f0.f0, x.f0.f1, x.f0.f2, x.f0.f3, x.f0.f4⟩, x.f1⟩
theorem theirs_ev : ∀ (R P : List S28) (acc : List S55), (P ++ R).length ≤ 1000000 → R.length + acc.length ≤ 1000000 → Ev (fun k => comptrollerlaw09_Theirs.l0 k acc (P ++ R) (P ++ R).length P.length) (acc ++ R.map toT)
  | [], P, acc, h, h2 => by
    refine Ev.some fun k => ?_
    simp only [comptrollerlaw09_Theirs.l0]
    rw [if_neg (by simp)]
    simp
  | x :: R, P, acc, h, h2 => by
    have ih := theirs_ev R (P ++ [x]) (acc ++ [toT x]) (by simp at h ⊢; omega) (by simp at h2 ⊢; omega)
    have hl : (P ++ x :: R).length = P.length + R.length + 1 := by simp; omega
    rw [hl] at h
    simp only [List.length_cons] at h2
    refine Ev.step (g := fun k => comptrollerlaw09_Theirs.l0 k (acc ++ [toT x]) (P ++ x :: R) (P ++ x :: R).length ((P ++ [x]).length : Nat)) (by simpa using ih) fun k => ?_
    show comptrollerlaw09_Theirs.l0 (k + 1) _ _ _ _ = _
    simp only [comptrollerlaw09_Theirs.l0]
    rw [hl, if_pos (by omega), if_pos (by omega), if_pos (by omega), if_pos (by omega), w64 (n := (P.length : Int) + 1) (by omega) (by omega), rd28_app P R x _ rfl, show ((P ++ [x]).length : Int) = (P.length : Int) + 1 by simp]
    rfl
theorem Theirs_ev (l : List S28) (h : l.length ≤ 1000000) : Ev (fun k => comptrollerlaw09_Theirs.f k l) (l.map toT) := by
  simpa [comptrollerlaw09_Theirs.f] using theirs_ev l [] [] (by simpa using h) (by simpa using h)
theorem ours_ev : ∀ (R P : List S55) (acc : List S28), (P ++ R).length ≤ 1000000 → R.length + acc.length ≤ 1000000 → Ev (fun k => comptrollerlaw09_Ours.l0 k acc (P ++ R) (P ++ R).length P.length) (acc ++ R.map toO)
  | [], P, acc, h, h2 => by
    refine Ev.some fun k => ?_
    simp only [comptrollerlaw09_Ours.l0]
    rw [if_neg (by simp)]
    simp
  | x :: R, P, acc, h, h2 => by
    have ih := ours_ev R (P ++ [x]) (acc ++ [toO x]) (by simp at h ⊢; omega) (by simp at h2 ⊢; omega)
    have hl : (P ++ x :: R).length = P.length + R.length + 1 := by simp; omega
    rw [hl] at h
    simp only [List.length_cons] at h2
    refine Ev.step (g := fun k => comptrollerlaw09_Ours.l0 k (acc ++ [toO x]) (P ++ x :: R) (P ++ x :: R).length ((P ++ [x]).length : Nat)) (by simpa using ih) fun k => ?_
    show comptrollerlaw09_Ours.l0 (k + 1) _ _ _ _ = _
    simp only [comptrollerlaw09_Ours.l0]
    rw [hl, if_pos (by omega), if_pos (by omega), if_pos (by omega), if_pos (by omega), w64 (n := (P.length : Int) + 1) (by omega) (by omega), rd_app P R x _ rfl, show ((P ++ [x]).length : Int) = (P.length : Int) + 1 by simp]
    rfl
theorem Ours_ev (l : List S55) (h : l.length ≤ 1000000) : Ev (fun k => comptrollerlaw09_Ours.f k l) (l.map toO) := by
  simpa [comptrollerlaw09_Ours.f] using ours_ev l [] [] (by simpa using h) (by simpa using h)
theorem same_ev : ∀ (R P : List S28), (P ++ R).length ≤ 1000000 → Ev (fun k => comptrollerref09_Same.l0 k (P ++ R) (P ++ R) P.length) true
  | [], P, h => by
    refine Ev.some fun k => ?_
    simp only [comptrollerref09_Same.l0]
    rw [if_neg (by simp)]
  | x :: R, P, h => by
    have ih := same_ev R (P ++ [x]) (by simp at h ⊢; omega)
    have hl : (P ++ x :: R).length = P.length + R.length + 1 := by simp; omega
    rw [hl] at h
    refine Ev.step (g := fun k => comptrollerref09_Same.l0 k (P ++ x :: R) (P ++ x :: R) ((P ++ [x]).length : Nat)) (by simpa using ih) fun k => ?_
    show comptrollerref09_Same.l0 (k + 1) _ _ _ = _
    simp only [comptrollerref09_Same.l0]
    rw [hl, if_pos (by omega), if_pos (by omega), if_pos (by omega), if_neg (by simp), w64 (n := (P.length : Int) + 1) (by omega) (by omega), show ((P ++ [x]).length : Int) = (P.length : Int) + 1 by simp]
theorem Same_ev (l : List S28) (h : l.length ≤ 1000000) : Ev (fun k => comptrollerref09_Same.f k l l) true := by
  simpa [comptrollerref09_Same.f] using same_ev l [] (by simpa using h)
theorem right_ev : ∀ (R P : List S55), (P ++ R).length ≤ 2000 → Rise (P ++ R) → (∀ y ∈ P ++ R, y.f1 ≠ 0) → Ev (fun k => fact_Right.l0 k (P ++ R) (P ++ R) (P ++ R).length P.length) true
  | [], P, h, hr, hn => by
    refine Ev.some fun k => ?_
    simp only [fact_Right.l0]
    rw [if_neg (by simp)]
    simp at h
    simp; omega
  | x :: R, P, h, hr, hn => by
    have ih := right_ev R (P ++ [x]) (by simp at h ⊢; omega) (by simpa using hr) (by simpa using hn)
    have hl : (P ++ x :: R).length = P.length + R.length + 1 := by simp; omega
    rw [hl] at h
    have hx : ¬ x.f1 = 0 := hn x (by simp)
    have rx := rd_app P R x (P.length : Int) rfl
    by_cases hp : P.length = 0
    · refine Ev.step (g := fun k => fact_Right.l0 k (P ++ x :: R) (P ++ x :: R) (P ++ x :: R).length ((P ++ [x]).length : Nat)) (by simpa using ih) fun k => ?_
      show fact_Right.l0 (k + 1) _ _ _ _ = _
      simp only [fact_Right.l0]
      rw [hl, if_pos (by omega), if_pos (by omega), if_pos (by omega), rx, if_neg hx, if_neg (by omega), w64 (n := (P.length : Int) + 1) (by omega) (by omega), show ((P ++ [x]).length : Int) = (P.length : Int) + 1 by simp]
    · obtain ⟨P', z, rfl⟩ : ∃ P' z, P = P' ++ [z] := ⟨P.dropLast, P.getLast (by intro e; simp [e] at hp), (List.dropLast_concat_getLast _).symm⟩
      have rz : rd_T55 ((P' ++ [z]) ++ x :: R) (((P' ++ [z]).length : Int) - 1) = z := by
        rw [show (P' ++ [z]) ++ x :: R = P' ++ z :: (x :: R) by simp]; exact rd_app _ _ _ _ (by simp)
      have hlt : cmpK z.f0 x.f0 < 0 := (List.pairwise_append.1 hr).2.2 z (by simp) x (by simp)
      refine Ev.step (Ev.bind (g := fun k t => if t ≥ 0 then some false else fact_Right.l0 k ((P' ++ [z]) ++ x :: R) ((P' ++ [z]) ++ x :: R) ((P' ++ [z]) ++ x :: R).length (((P' ++ [z]) ++ [x]).length : Nat)) (cmp_ev z.f0 x.f0) ?_) fun k => ?_
      · have : ¬ cmpK z.f0 x.f0 ≥ 0 := by omega
        simp only [if_neg this]
        simpa using ih
      · show fact_Right.l0 (k + 1) _ _ _ _ = _
        simp only [fact_Right.l0]
        rw [hl, if_pos (by omega), if_pos (by omega), if_pos (by omega), rx, if_neg hx, if_pos (by omega), w64 (n := ((P' ++ [z]).length : Int) - 1) (by omega) (by omega), if_pos (by omega), if_pos (by omega), rz, w64 (n := ((P' ++ [z]).length : Int) + 1) (by omega) (by omega), show (((P' ++ [z]) ++ [x]).length : Int) = ((P' ++ [z]).length : Int) + 1 by simp; omega]
theorem Right_ev (l : List S55) (h : l.length ≤ 2000) (hr : Rise l) (hn : ∀ y ∈ l, y.f1 ≠ 0) : Ev (fun k => fact_Right.f k l) true := by
  simpa [fact_Right.f] using right_ev l [] (by simpa using h) hr hn
/-- Where a round has returned: what the results' cells hold. -/
structure Fin (w0 : World) (b4 : Nat) (oL : Obj) (e : Int) (W : World) : Prop where
  r2 : W.heap[w0.heap.size]? = some (.cells #[.slice none 0 0] 30 (0, 0))
  r3 : W.heap[w0.heap.size + 1]? = some (.cells #[.int .i64 e] 31 (0, 0))
  rD : W.heap[b4 + 2]? = some (.deferred (some []))
  rL : W.heap[b4 + 3]? = some oL
  rb : Below w0.heap.size w0 W
  lt : w0.heap.size + 1 < b4
theorem Fin.record {w0 : World} {b4 : Nat} {oL : Obj} {e : Int} {W : World} (h : Fin w0 b4 oL e W) (o' : Obj) : Fin w0 b4 o' e (W.putObj (b4 + 3) o') := by
  have hL := (Array.getElem?_eq_some_iff.1 h.rL).1
  have hlt := h.lt
  have ne : ∀ k, k ≠ b4 + 3 → (W.putObj (b4 + 3) o').heap[k]? = W.heap[k]? := fun k hk => World.putObj_heap_other hk
  exact ⟨(ne _ (by omega)).trans h.r2, (ne _ (by omega)).trans h.r3, (ne _ (by omega)).trans h.rD, World.putObj_heap_same hL, h.rb.grown (row := some (b4 + 3)) (grownBy_putObj' W _ o') h.rb.size (fun k e => by cases e; omega), h.lt⟩
/-- How a round's body may be left. -/
def ofPost (w0 W5 : World) (b4 gs : Nat) (oL : Obj) (cur : List S55) (r : List S55 × Int) : Exit → Act → World → Prop
  | .normal, _, W' => ∃ vo out k, Fx w0 W5 b4 gs oL cur vo out W' ∧ ofGo k (cur.drop (runLen cur)) out = some r
  | .ret, _, W' => Fin w0 b4 oL r.2 W' ∧ r.1 = []
  | _, _, _ => False
theorem of_range {g : Operand} {ps : Array Tmp} {assign body : Code} {Q : Exit → Act → World → Prop} {a : Act} {n : Nat} (h2 : 2 ≤ n) (w0 W5 : World) (b4 gs : Nat) (s : List S55) (A0 : Option Addr) (c0 : Nat) (r : List S55 × Int) (k0 : Nat)
    (hg : a.eval g = .func (.func 44) #[] #[.pointer (some ⟨b4 + 1, 0, none⟩)]) (hsz : W5.heap.size = b4 + 2) (hps : ps.size = 1)
    (r2 : W5.heap[w0.heap.size]? = some (.cells #[.slice none 0 0] 30 (0, 0))) (r3 : W5.heap[w0.heap.size + 1]? = some (.cells #[.int .i64 0] 31 (0, 0))) (r4 : W5.heap[b4]? = some (.cells #[.slice none 0 0] 30 (0, 0)))
    (rB : W5.heap[b4 + 1]? = some (.cells #[.slice A0 s.length c0] 29 (0, 0))) (hle : s.length ≤ c0) (hcm : c0 ≤ 9223372036854775807) (hC : Kd.C k55 W5 A0 s.length s) (hA : ∀ ad, A0 = some ad → ad.block = gs)
    (rb : Below w0.heap.size w0 W5) (lt : w0.heap.size + 1 ≤ gs ∧ gs < b4) (hgo : ofGo k0 s [] = some r) (a₁ : Value → Act)
    (hassign : ∀ (l : Nat) (v : Value) (W : World) (K : Act → World → Prop), K (a₁ v) W → assign.wpIn (Fence.wide.inRound l) (n - 1 - 1) Try.prog (Exit.then K (fun _ _ _ => False)) { tmps := (ps.zip #[v]).foldl (fun t (p, v) => t.setIfInBounds p v) a.tmps, defers := [] } W)
    (hbody : ∀ (oL : Obj) (cur : List S55) (A : Option Addr) (c : Nat) (vo : Value) (out : List S55) (k : Nat) (W : World), cur ≠ [] → Fx w0 W5 b4 gs oL cur vo out W → ofGo k cur out = some r → Kd.C k55 W A cur.length cur → cur.length ≤ c →
      body.wpIn (Fence.wide.inRound (b4 + 3)) (n - 1 - 1) Try.prog (ofPost w0 W5 b4 gs oL cur r) (a₁ (.slice A (runLen cur) c)) W)
    (hdone : ∀ (oL : Obj) (vo : Value) (out : List S55) (k : Nat) (W : World), Fx w0 W5 b4 gs oL [] vo out W → ofGo k [] out = some r → Q .normal { a with defers := { target := .collected (b4 + 2), args := #[] } :: a.defers } W)
    (hstop : ∀ (oL : Obj) (W : World), Fin w0 b4 oL r.2 W → r.1 = [] → Code.ret.wpIn Fence.wide n Try.prog Q { a with defers := { target := .collected (b4 + 2), args := #[] } :: a.defers } W) :
    (Code.rangeFunc g ps assign body).wpIn Fence.wide n Try.prog Q a W5 := by
  refine wpIn_rangeFunc ?_
  intro fn hfn
  obtain ⟨rec, hrec⟩ : ∃ rec : LoopState → Option Code → Loop, rec = fun st pe => { state := st, pending := pe, fn, tmps := a.tmps, params := ps, assign, body, defers := W5.heap.size } := ⟨_, rfl⟩
  obtain ⟨W1, hW1⟩ : ∃ W1, (W5.alloc (.deferred (some []))).alloc (.loop (rec .ready none)) = W1 := ⟨_, rfl⟩
  have hb1 : Below W5.heap.size W5 W1 := by rw [← hW1]; exact ((Below.refl _ W5).alloc (Nat.le_refl _) _).alloc (by simp) _
  have hF1 : Fx w0 W5 b4 gs (.loop (rec .ready none)) s (.slice none 0 0) [] W1 := by
    obtain ⟨l1, l2⟩ := lt
    refine ⟨(hb1.block _ (by omega)).trans r2, (hb1.block _ (by omega)).trans r3, (hb1.block _ (by omega)).trans r4, ⟨A0, c0, (hb1.block _ (by omega)).trans rB, hle, hcm, hC, hA⟩, ?_, ?_, hb1.block _ (by omega), Kd.R_nil _ _ _ _ _, rb.trans (hb1.mono rb.size), ⟨l1, l2⟩, rfl⟩
    · rw [← hW1, ← hsz]; exact (Below.heap_alloc _ _ _ (by simp)).trans (World.alloc_heap_new W5 _)
    · rw [← hW1, show b4 + 3 = W5.heap.size + 1 by omega]; have := World.alloc_heap_new (W5.alloc (.deferred (some []))) (.loop (rec .ready none)); rwa [World.size_alloc] at this
  refine ⟨W5.heap.size + 1, [{ target := .collected W5.heap.size, args := #[] }], W1, { target := .fn (.func 44) #[.pointer (some ⟨b4 + 1, 0, none⟩)], args := #[.func (.yield (W5.heap.size + 1)) #[] #[]] }, W1, 44,
    #[.func (.yield (W5.heap.size + 1)) #[] #[]] ++ #[.pointer (some ⟨b4 + 1, 0, none⟩)], W1, ?_, ?_, ?_, ?_, fun _ => by omega, ?_⟩
  · rw [← hW1, hrec]; exact run_enterLoop_outer _ _ _ _ _
  · simp only [resolve, hg]
    simp [go_sem]
  · intro f' hf'; trivial
  · have eg : ∀ args w, (callFunc 44 args).run Try.prog w = .ok (.enter 44 args) w := enters_of Try.func44 (by kernel_rfl) rfl
    simp [invoke, go_sem, eg]
  · rw [show W5.heap.size + 1 = b4 + 3 by omega, show W5.heap.size = b4 + 2 by omega]
    refine (runs1_in (n - 1) (by omega) (b4 + 3) (b4 + 1) gs
      (fun cur rest W => ∃ vo out k, Fx w0 W5 b4 gs (.loop (rec .ready none)) cur vo out W ∧ ofGo k rest out = some r)
      (fun W => Fin w0 b4 (.loop (rec .done (some .ret))) r.2 W ∧ r.1 = []) ?_ ?_ ?_ ?_ s W1 ⟨_, _, k0, hF1, hgo⟩).mono ?_
    · rintro cur rest W ⟨vo, out, k, hF, _⟩
      obtain ⟨A, c, hB, h1, h2', h3, h4⟩ := hF.rB
      exact ⟨A, c, (blk_cell hB 0).trans rfl, blk_frozen hB 0, h1, h2', C_block h4 hF.rg h3, h4⟩
    · rintro cur rest W m ⟨vo, out, k, hF, hk⟩
      exact ⟨vo, out, k, hF.below (Drawn0.below ⟨⟨m, rfl⟩⟩), hk⟩
    · rintro cur rest W A c ⟨vo, out, k, hF, hk⟩ hC' hle' hcm' hA'
      exact ⟨vo, out, k, hF.box A c (C_block hA' hF.rg.symm hC') hle' hcm' hA', hk⟩
    · rintro cur W A c ⟨vo, out, k, hF, hk⟩ hne hc hC' hle'
      have hy := run_yield (P := Try.prog) (args := #[.slice A (runLen cur) c]) hF.rL (by rw [hrec]; exact hps.symm)
      rw [hrec] at hy
      refine ⟨fn, _, assign, body, hy, roundIn_of_wpIn hfn (hassign _ _ W _ ⟨_, run_beginRound hF.rL (by rw [hrec]), ?_⟩)⟩
      have hF2 := hF.record (.loop { rec .ready none with state := .busy }) rfl
      have hC2 : Kd.C k55 (W.putObj (b4 + 3) (.loop { rec .ready none with state := .busy })) A cur.length cur := by
        refine ⟨hC'.1, hC'.2.1, fun hp => ?_⟩
        obtain ⟨ad, e, hcc⟩ := hC'.2.2 hp
        refine ⟨ad, e, fun j p hj => ?_⟩
        obtain ⟨cs, h1, h2', h3⟩ := hcc j p hj
        refine ⟨cs, h1, k55_any h2', fun i u hu => ?_⟩
        have h4 := h3 i u hu
        rw [World.cell?_of_block (w := W) (World.putObj_heap_other ?_)]
        · exact h4
        · intro e5
          obtain ⟨o, ho, hc5⟩ := not_walk_of_cell h4
          rw [e5, hF.rL] at ho
          unfold World.cell? at h4
          rw [e5, hF.rL] at h4
          cases h4
      refine wpIn_mono (hbody _ cur A c vo out k _ hne hF2 hk hC2 hle') ?_
      rintro e a3 W3 hp
      cases e with
      | normal =>
        obtain ⟨vo', out', k', hF3, hk3⟩ := hp
        have := run_endRound (P := Try.prog) none hF3.rL
        rw [hrec] at this ⊢
        rw [hrec] at hF3
        exact ⟨_, _, this, .inl ⟨rfl, vo', out', k', hF3.record _ rfl, hk3⟩⟩
      | ret =>
        obtain ⟨hF3, hr⟩ := hp
        have := run_endRound (P := Try.prog) (some .ret) hF3.rL
        rw [hrec] at this ⊢
        rw [hrec] at hF3
        exact ⟨_, _, this, .inr ⟨rfl, hF3.record _, hr⟩⟩
      | exit id => exact hp.elim
      | goto t => exact hp.elim
      | panic ch => exact hp.elim
      | outgrown => exact hp.elim
    · rintro e W2 ⟨⟨v, rfl⟩, (⟨vo, out, k, hF, hk⟩ | ⟨hF, hr⟩)⟩
      · exact ⟨none, _, by have := run_endLoop (P := Try.prog) hF.rL (by rw [hrec]; simp); rw [hrec] at this; exact this, hdone _ vo out k _ (hF.record _ rfl) hk⟩
      · exact ⟨some .ret, _, by have := run_endLoop (P := Try.prog) hF.rL (by rw [hrec]; simp); rw [hrec] at this; exact this, hstop _ _ (hF.record _) hr⟩
end Go.Proofs.Ytdckeflggcefbaa.Y
namespace Go.Proofs.Ytdckeflggcefbaa.Y
open Go.RowKit Go.Proofs.YtdckeflggcefbaaW.PrintWords Go.Proofs.YtdckeflggcefbaaW.PrintLast Go.Proofs.YtdckeflggcefbaaW.PrintMore
set_option linter.unusedVariables false
theorem append_in {F : Fence} {nF : Nat} {P : Program} {ops : Array Oper} {rest : List Oper} {o : Oper} {a : Act} {Q : Exit → Act → World → Prop} {α : Type} (d : Kd α) {w0 W : World} (base : Nat) (hgd : o.guard = none) (s x : Operand) (t e : TypeId) (z : Value) (bytes : Nat)
    (ho : o.op = .call { callee := .builtin .append, args := #[s, x], argTypes := #[t, t] })
    (ht : P.underlying t = some (.slice e)) (hinfo : (P.info? e).map (fun i => (i.zero, i.size, i.bytes)) = some (some z, d.sz, bytes)) (hz : z.cells.size = d.sz) (hs0 : 0 < d.sz) (hb0 : 0 < bytes)
    (v : Value) (xs : List α) (p : α) (cs : List Value) (ok okp : Nat → Prop) (hs : a.eval s = v) (hx : a.eval x = .slice (some ⟨W.heap.size, 0, none⟩) 1 1) (hp : d.M W base okp p cs) (hokp : ∀ k, okp k → ok k ∧ some k ≠ v.ownBlock) (hfresh : ∀ k, W.heap.size ≤ k → ok k)
    (HO : d.R e W base ok v xs) (HB : Below base w0 W) (hbase : base ≤ W.heap.size) (hl : (xs.length + 1) * bytes ≤ 140737488355328)
    (h : ∀ v1 w1, d.R e w1 base ok v1 (xs ++ [p]) → Below base w0 w1 → W.grownBy w1 v.ownBlock → wpListIn F nF P ops Q rest (a.put o.dst v1) w1) :
    wpListIn F nF P ops Q (o :: rest) a (W.alloc (.cells cs.toArray e)) := by
  obtain ⟨h0, inner, hown, hr⟩ := HO
  obtain ⟨i0, hi, hzz⟩ := Option.map_eq_some_iff.1 hinfo
  simp only [Prod.mk.injEq] at hzz
  obtain ⟨hz0, hz1, hz2⟩ := hzz
  have hlen : xs.length + 1 ≤ 140737488355328 := Nat.le_trans (Nat.le_mul_of_pos_right _ hb0) hl
  have hys := d.K_len (d.K_of_M hp)
  refine wpListIn_append_own_at (w := W.alloc (.cells cs.toArray e)) hgd s x t ho base e i0 z d.sz bytes ht hi hz0 hz1 hz2 hz hs0 v xs.length inner hs (hown.alloc _) ⟨W.heap.size, 0, none⟩ 1 1 cs hx (by rw [hys]; simp)
    (by simpa using World.news_of_block (cs := cs.toArray) (t := e) (fr := (0, 0)) (heap_alloc_new W (.cells cs.toArray e))) (d.K_one (d.K_of_M hp)) (by simp only [maxLen]; omega) hl (by simp; omega) ?_
  intro v1 w1 hown1 hg _ hat
  have hat1 : v1.ownBlock = v.ownBlock ∨ ∃ b, v1.ownBlock = some b ∧ W.heap.size ≤ b := by
    rcases hat with hat | hat
    · exact .inl hat
    · exact .inr ⟨_, hat, by simp⟩
  have hg1 : W.grownBy w1 v.ownBlock := World.grownBy.trans (World.grownBy_alloc W _ _) hg
  exact h v1 w1 (Kd.R_appended h0 hr hp hokp hfresh hown1 hg1 hat1) ((HB.alloc hbase _).grown hg (by simp; omega) (own_base hown)) hg1
end Go.Proofs.Ytdckeflggcefbaa.Y
namespace Go.Proofs.Ytdckeflggcefbaa.Y
open Go.RowKit Go.Proofs.YtdckeflggcefbaaW.PrintWords Go.Proofs.YtdckeflggcefbaaW.PrintLast Go.Proofs.YtdckeflggcefbaaW.PrintMore
set_option linter.unusedVariables false
set_option linter.unusedSimpArgs false
theorem of_cells (W : World) (b D : Nat) (v : Value) (e : Int) (tmps : Array Value) (h2 : tmps[2]? = some (.pointer (some ⟨b, 0, none⟩))) (h3 : tmps[3]? = some (.pointer (some ⟨b + 1, 0, none⟩)))
    (c2 : W.heap[b]? = some (.cells #[v] 30 (0, 0))) (c3 : W.heap[b + 1]? = some (.cells #[.int .i64 e] 31 (0, 0))) (cD : W.heap[D]? = some (.deferred (some []))) (R : Ending → World → Prop)
    (h : R (.returned (.tuple #[v, .int .i64 e])) (W.putObj D (.deferred none))) :
    bodyPostM Fence.wide 5 Try.prog Try.f21 R Exit.ret { tmps := tmps, defers := [{ target := .collected D, args := #[] }] } W := by
  have n2 : b ≠ D := by rintro rfl; rw [c2] at cD; cases cD
  have n3 : b + 1 ≠ D := by intro e; rw [e, cD] at c3; cases c3
  have d2 := (World.putObj_heap_other (o := .deferred none) n2).trans c2
  have d3 := (World.putObj_heap_other (o := .deferred none) n3).trans c3
  have e2 := (blk_cell d2 0).trans (show (#[v])[0]? = some v from rfl)
  have e3 := (blk_cell d3 0).trans (show (#[Value.int .i64 e])[0]? = some (Value.int .i64 e) from rfl)
  refine ⟨by simp, .inl ⟨_, _, rfl, run_takeDeferred cD, ?_⟩⟩
  refine ⟨_, ?_, h⟩
  have g2 : tmps.getD 2 undef = .pointer (some ⟨b, 0, none⟩) := by rw [Array.getD_eq_getD_getElem?, h2]; rfl
  have g3 : tmps.getD 3 undef = .pointer (some ⟨b + 1, 0, none⟩) := by rw [Array.getD_eq_getD_getElem?, h3]; rfl
  have hr : Try.f21.results = #[.cell 2 30, .cell 3 31] := rfl
  have hu30 := Try.underlying30
  have hu31 := Try.underlying31
  simp only [results, hr]
  simp [h2, h3, go_sem, e2, e3]
theorem Fx.fin {w0 W5 : World} {b4 gs : Nat} {oL : Obj} {cur : List S55} {vo : Value} {out : List S55} {W : World} (h : Fx w0 W5 b4 gs oL cur vo out W) (e : Int) : Fin w0 b4 oL e ((W.setCell ⟨w0.heap.size, 0, none⟩ (.slice none 0 0)).setCell ⟨w0.heap.size + 1, 0, none⟩ (.int .i64 e)) := by
  obtain ⟨l1, l2⟩ := h.lt
  have ne : ∀ k, k ≠ w0.heap.size → k ≠ w0.heap.size + 1 → ((W.setCell ⟨w0.heap.size, 0, none⟩ (.slice none 0 0)).setCell ⟨w0.heap.size + 1, 0, none⟩ (.int .i64 e)).heap[k]? = W.heap[k]? := fun k h1 h2 => (Below.heap_setCell _ _ _ _ h2).trans (Below.heap_setCell _ _ _ _ h1)
  have s2 := blk_far (blk_set h.r2 0 (.slice none 0 0)) (p := ⟨w0.heap.size + 1, 0, none⟩) (by show w0.heap.size ≠ w0.heap.size + 1; omega) (.int .i64 e)
  have s3 := blk_set (blk_far h.r3 (p := ⟨w0.heap.size, 0, none⟩) (by show w0.heap.size + 1 ≠ w0.heap.size; omega) (.slice none 0 0)) 0 (.int .i64 e)
  exact ⟨by simpa using s2, by simpa using s3, (ne _ (by omega) (by omega)).trans h.rD, (ne _ (by omega) (by omega)).trans h.rL, (h.rb.setCell (p := ⟨w0.heap.size, 0, none⟩) (Nat.le_refl _) _).setCell (p := ⟨w0.heap.size + 1, 0, none⟩) (by show _ ≤ w0.heap.size + 1; omega) _, by omega⟩
attribute [local go_sem] Oper.semAt_some
set_option maxHeartbeats 8000000 in
set_option maxRecDepth 100000 in
theorem fact_Of.calls (k : Nat) (A0 : Option Addr) (c0 : Nat) (l0 : List (S55)) (r1 : List (S55)) (r2 : Int) (w : World) (hr0 : Kd.C k55 w A0 l0.length l0) (hc0 : l0.length ≤ c0) (h : fact_Of.f k l0 = some (r1, r2)) :
    Calls Try.prog 21 #[.slice A0 l0.length c0] w fun e w' => ∃ v0_ : Value, e = .returned (.tuple #[v0_, .int .i64 r2]) ∧ Kd.R k55 55 w' w.heap.size (fun _ => True) v0_ r1 ∧ Below w.heap.size w w' := by
  obtain ⟨c, hc, h⟩ := Option.bind_eq_some_iff.mp h
  obtain ⟨s, hs, h⟩ := Option.bind_eq_some_iff.mp h
  have HC := Aside0.mk hc
  have HS := Aside0.mk hs
  have H := Aside0.mk h
  have HR0 := Aside0.mk hr0
  have HC0 := Aside0.mk hc0
  clear hc hs h hr0 hc0
  refine (callsIn_wide (n := 5)).1 ?_
  refine callsIn_of_wp_marks Try.func21 rfl trivial ?_
  simp only [Try.ntmps21, List.size_toArray, List.length_cons, List.length_nil, Nat.reduceAdd, Nat.reduceSub, Array.replicate_succ, Array.replicate_zero, List.push_toArray, List.append_toArray, List.nil_append, List.cons_append]
  have b2 := heap_alloc_new w (.cells #[.slice none 0 0] 30)
  have b3 := heap_alloc_new (w.alloc (.cells #[.slice none 0 0] 30)) (.cells #[.int .i64 0] 31)
  have b2' := (Below.heap_alloc (w.alloc (.cells #[.slice none 0 0] 30)) (.cells #[.int .i64 0] 31) w.heap.size (by simp)).trans b2
  have hB2 : Below w.heap.size w ((w.alloc (.cells #[.slice none 0 0] 30)).alloc (.cells #[.int .i64 0] 31)) := ((Below.refl _ w).alloc (Nat.le_refl _) _).alloc (by simp) _
  have hz2 : ((w.alloc (.cells #[.slice none 0 0] 30)).alloc (.cells #[.int .i64 0] 31)).heap.size = w.heap.size + 2 := by simp
  simp only [World.size_alloc] at b3
  obtain ⟨W2, hW2⟩ : ∃ W2, (w.alloc (.cells #[.slice none 0 0] 30)).alloc (.cells #[.int .i64 0] 31) = W2 := ⟨_, rfl⟩
  rw [hW2] at b3 b2' hB2 hz2
  clear b2
  have F2 := Aside0.mk b2'
  have F3 := Aside0.mk b3
  have HB2 := Aside0.mk hB2
  have HZ2 := Aside0.mk hz2
  have HW2 := Aside0.mk hW2
  clear b2' b3 hB2 hz2 hW2
  gi_wp2_with fail
  rw [HW2.out]
  refine ⟨trivial, ?_⟩
  refine (callsIn_wide.2 (fact_Clone.calls A0 c0 l0 c W2 (Kd.C_below HR0.out HB2.out) HC0.out HC.out)).mono ?_
  rintro e w3 ⟨vc, rfl, hvc, hb3⟩
  have HVC := Aside0.mk hvc
  have HB3 := Aside0.mk hb3
  clear hvc hb3
  gi_wp2_with fail
  refine ⟨trivial, ?_⟩
  refine (callsIn_wide.2 (fact_Fact_33.calls k (fun k_ => some k_ = vc.ownBlock) vc c s W2 w3 HB3.out (Kd.R_tight rfl HVC.out) HS.out)).mono ?_
  rintro e w4 ⟨rfl, hvs, hb4, hk4⟩
  obtain ⟨A, cap, evc, hcap, hA⟩ := Kd.R_reads hvs
  subst evc
  have hz4 : w.heap.size + 2 ≤ w4.heap.size := by have := HZ2.out; have := hb4.size; omega
  have F2' := Aside0.mk ((hb4.block _ (by have := HZ2.out; omega)).trans F2.out)
  have F3' := Aside0.mk ((hb4.block _ (by have := HZ2.out; omega)).trans F3.out)
  have HVS := Aside0.mk hvs
  have HA := Aside0.mk hA
  have HCAP := Aside0.mk hcap
  have HB4 := Aside0.mk (HB2.out.trans (hb4.mono (by have := HZ2.out; omega)))
  have HZ4 := Aside0.mk hz4
  clear hvs hA hcap hb4 hk4 hz4 F2 F3 HVC HB3 HB2 HW2
  gi_wp2_with fail
  refine ⟨trivial, ?_⟩
  refine (runs_in _ _ _ _ _).mono ?_
  rintro e w' ⟨rfl, rfl⟩
  gi_wp2_with fail
  have hb5 : Below w4.heap.size w4 ((w4.alloc (.cells #[.slice none 0 0] 30)).alloc (.cells #[.slice A s.length cap] 29)) := ((Below.refl _ w4).alloc (Nat.le_refl _) _).alloc (by simp) _
  have hz5 : ((w4.alloc (.cells #[.slice none 0 0] 30)).alloc (.cells #[.slice A s.length cap] 29)).heap.size = w4.heap.size + 2 := by simp
  have h4 := (Below.heap_alloc (w4.alloc (.cells #[.slice none 0 0] 30)) (.cells #[.slice A s.length cap] 29) w4.heap.size (by simp)).trans (heap_alloc_new w4 (.cells #[.slice none 0 0] 30))
  have h5 := heap_alloc_new (w4.alloc (.cells #[.slice none 0 0] 30)) (.cells #[.slice A s.length cap] 29)
  simp only [World.size_alloc] at h5
  obtain ⟨gs, hgs, hA⟩ : ∃ gs, (w.heap.size + 1 ≤ gs ∧ gs < w4.heap.size) ∧ ∀ ad, A = some ad → ad.block = gs := by
    cases A with
    | none => exact ⟨w.heap.size + 1, ⟨Nat.le_refl _, by have := HZ4.out; omega⟩, fun _ e => by cases e⟩
    | some ad =>
      have hk := Kd.R_bound HVS.out
      obtain ⟨_, h1, h2, _⟩ := hk.1 ad.block rfl
      exact ⟨ad.block, ⟨by have := HZ2.out; omega, h2⟩, fun _ e => by cases e; rfl⟩
  have hcapm : cap ≤ 9223372036854775807 := by
    obtain ⟨inner, ho⟩ := Kd.R_own HVS.out
    rcases ho.2 with ⟨e, _⟩ | ⟨g, cap', cur, e, _, _, _, h, _⟩
    · injection e with _ _ e3; omega
    · injection e with _ _ e3; unfold maxLen at h; omega
  refine of_range (n := 5) (by omega) w _ w4.heap.size gs s A cap (r1, r2) k rfl hz5 rfl ((hb5.block _ (by have := HZ4.out; omega)).trans F2'.out) ((hb5.block _ (by have := HZ4.out; omega)).trans F3'.out) h4 h5 HCAP.out hcapm (Kd.C_below HA.out hb5) hA (HB4.out.trans (hb5.mono (by have := HZ4.out; omega))) hgs H.out
    (fun v => { tmps := #[.slice A s.length cap, undef, .pointer (some ⟨w.heap.size, 0, none⟩), .pointer (some ⟨w.heap.size + 1, 0, none⟩), .pointer (some ⟨w4.heap.size, 0, none⟩), v, undef, undef, undef, undef, undef, .slice A0 l0.length c0, .slice A s.length cap, .slice A s.length cap, .tuple #[], .slice A s.length cap, .func (.func 44) #[] #[.pointer (some ⟨w4.heap.size + 1, 0, none⟩)], v, undef, undef, undef, undef, undef, undef, undef, undef, undef, undef, undef, undef, undef, undef, undef, undef, undef, undef, undef, undef, undef, undef, undef, undef, undef, undef, undef, undef, undef, undef, undef, undef, undef, undef, undef, undef], defers := [] }) ?assign ?body ?done ?stop
  case assign =>
    intro l v W K hK
    gi_wp2
    exact hK
  case body =>
    rintro oL cur A1 c1 vo out k1 W hne hF hgo hC1 hle1
    cases k1 with
    | zero => exact absurd hgo (by simp [ofGo])
    | succ k1 =>
    have hgo' : (ofSum 0 (cur.take (runLen cur))).bind (fun r => if r.2 = 0 then (if r.1 = 0 then ofGo k1 (cur.drop (runLen cur)) out else if out.length < 1759218604441 then ofGo k1 (cur.drop (runLen cur)) (out ++ [⟨(rd_T55 cur 0).f0, r.1⟩]) else none) else some ([], r.2)) = some (r1, r2) := by
      have hl : ¬ cur.length = 0 := fun e => hne (List.length_eq_zero_iff.1 e)
      unfold ofGo at hgo
      rw [if_neg hl] at hgo
      exact hgo
    obtain ⟨⟨t, e⟩, hsum, hrest⟩ := Option.bind_eq_some_iff.mp hgo'
    clear hgo hgo'
    have hpos : 0 < cur.length := List.length_pos_iff.2 hne
    have hrl := runLen_le cur
    have hrp := runLen_pos hne
    obtain ⟨ad, eA, _⟩ := hC1.2.2 hpos
    subst eA
    obtain ⟨ad', e2, y0, y1, y2, y3, y4, y5⟩ := at_T55 hC1 0 (by omega) (by omega)
    obtain rfl : ad = ad' := by injection e2
    clear e2
    simp only [Int.toNat_zero, Nat.zero_mul, Addr.add_zero'] at y0 y1 y2 y3 y4 y5
    have HNE := Aside0.mk hne
    have HF := Aside0.mk hF
    have HSUM := Aside0.mk hsum
    have HREST := Aside0.mk hrest
    have HC1 := Aside0.mk hC1
    have HLE1 := Aside0.mk hle1
    have HRL := Aside0.mk hrl
    have hrp' : (0 : Int) < (runLen cur : Int) := by omega
    have hrp2 : 0 < runLen cur := hrp
    clear hne hF hsum hrest hC1 hle1 hrl
    gi_wp2
    have hbS : Below W.heap.size W (W.alloc (.cells #[.string (rd_T55 cur 0).f0.f0, .string (rd_T55 cur 0).f0.f1, .string (rd_T55 cur 0).f0.f2, .string (rd_T55 cur 0).f0.f3, .int .i64 (rd_T55 cur 0).f0.f4, .int .i64 0] 55)) := (Below.refl _ W).alloc (Nat.le_refl _) _
    have hsS := heap_alloc_new W (.cells #[.string (rd_T55 cur 0).f0.f0, .string (rd_T55 cur 0).f0.f1, .string (rd_T55 cur 0).f0.f2, .string (rd_T55 cur 0).f0.f3, .int .i64 (rd_T55 cur 0).f0.f4, .int .i64 0] 55)
    have HBS := Aside0.mk hbS
    have HSS := Aside0.mk hsS
    clear hbS hsS y0 y1 y2 y3 y4 y5
    gi_loopg [25] (runLen cur) (fun g v wr => ∃ (i : Nat) (acc : Int), v = .int .i64 i ∧ Aside0 (i ≤ runLen cur) ∧ Aside0 (runLen cur - i ≤ g) ∧ Aside0 (Below W.heap.size W wr) ∧ Aside0 (wr.heap[W.heap.size]? = some (.cells #[.string (rd_T55 cur 0).f0.f0, .string (rd_T55 cur 0).f0.f1, .string (rd_T55 cur 0).f0.f2, .string (rd_T55 cur 0).f0.f3, .int .i64 (rd_T55 cur 0).f0.f4, .int .i64 acc] 55 (0, 0))) ∧ Aside0 (ofSum acc ((cur.take (runLen cur)).drop i) = some (t, e)))
    case atStart => exact ⟨0, 0, by go_num, ⟨Nat.zero_le _⟩, ⟨Nat.sub_le _ _⟩, HBS, HSS, HSUM⟩
    case round =>
      obtain ⟨i, acc, rfl, HI, HG, HB, HS2, HA2⟩ := hrel
      have hiz : (i : Int) + 1 ≤ 9223372036854775807 ∨ True := .inr trivial
      clear hiz
      have q5 := (blk_cell HS2.out 5).trans (show (#[Value.string (rd_T55 cur 0).f0.f0, .string (rd_T55 cur 0).f0.f1, .string (rd_T55 cur 0).f0.f2, .string (rd_T55 cur 0).f0.f3, .int .i64 (rd_T55 cur 0).f0.f4, .int .i64 acc])[5]? = some (Value.int .i64 acc) from rfl)
      have g5 := blk_frozen HS2.out 5
      have hu55 := Try.underlying55
      have hu44 := Try.underlying44
      by_cases hlt : i < runLen cur
      · obtain ⟨ad', e2, x0, x1, x2, x3, x4, x5⟩ := at_T55 (Kd.C_below HC1.out HB.out) (i : Int) (by omega) (by have := HRL.out; omega)
        obtain rfl : ad = ad' := by injection e2
        clear e2
        simp only [Int.toNat_natCast] at x0 x1 x2 x3 x4 x5
        have hl1 : decide ((i : Int) < (runLen cur : Int)) = true := decide_eq_true (by omega)
        have hl2 : decide (i < runLen cur) = true := decide_eq_true hlt
        have hi0 : (0 : Int) ≤ (i : Int) := by omega
        have hlz : (i : Int) < (runLen cur : Int) := by omega
        have hd : (cur.take (runLen cur)).drop i = rd_T55 cur (i : Int) :: (cur.take (runLen cur)).drop (i + 1) := by
          have hl : i < (cur.take (runLen cur)).length := by rw [List.length_take]; have := HRL.out; omega
          rw [List.drop_eq_getElem_cons hl]
          congr 1
          have := HRL.out
          simp [rd_T55, List.getElem_take, List.getD_eq_getElem?_getD, List.getElem?_eq_getElem (show i < cur.length by omega)]
        have hA2 := HA2.out
        rw [hd] at hA2
        obtain ⟨⟨n1, e1⟩, hadd, hA3⟩ := Option.bind_eq_some_iff.mp (show (cent_Add.f acc (rd_T55 cur (i : Int)).f1).bind (fun r => if r.2 = 0 then ofSum r.1 ((cur.take (runLen cur)).drop (i + 1)) else some r) = some (t, e) from hA2)
        have HADD := Aside0.mk hadd
        have HA3 := Aside0.mk hA3
        have HLT := Aside0.mk hlt
        clear hd hA2 hadd hA3 HA2 hlt
        by_cases he : e1 = 0
        · subst he
          have hWlt : W.heap.size < wr.heap.size := (Array.getElem?_eq_some_iff.mp HS2.out).1
          have HS2a : ∀ o, (wr.alloc o).heap[W.heap.size]? = some (.cells #[.string (rd_T55 cur 0).f0.f0, .string (rd_T55 cur 0).f0.f1, .string (rd_T55 cur 0).f0.f2, .string (rd_T55 cur 0).f0.f3, .int .i64 (rd_T55 cur 0).f0.f4, .int .i64 acc] 55 (0, 0)) := fun o => (Below.heap_alloc wr o W.heap.size hWlt).trans HS2.out
          have q5a : ∀ o, (wr.alloc o).cell? ⟨W.heap.size, 5, none⟩ = some (.int .i64 acc) := fun o => (blk_cell (HS2a o) 5).trans rfl
          have g5a : ∀ o, (wr.alloc o).frozen? ⟨W.heap.size, 5, none⟩ = false := fun o => blk_frozen (HS2a o) 5
          gi_wp2_with (refine ⟨trivial, ?_⟩; gi_at_call 28; refine (CallsIn.inRound _ (callsIn_wide.2 (cent_Add.calls _ _ n1 0 _ HADD.out))).mono ?_; rintro e' w' ⟨rfl, ⟨nd, rfl⟩⟩)
          gi_roundg (runLen cur - (i + 1))
          case measure => have := HG.out; have := HLT.out; omega
          case rel =>
            have hiz : (i : Int) + 1 ≤ 9223372036854775807 := by obtain ⟨_, _, _, hl, hm, _⟩ := HF.out.rB; have := HRL.out; have := HLT.out; omega
            have hb0 : Below W.heap.size W ((wr.alloc (.cells #[.string (rd_T55 cur i).f0.f0, .string (rd_T55 cur i).f0.f1, .string (rd_T55 cur i).f0.f2, .string (rd_T55 cur i).f0.f3, .int .i64 (rd_T55 cur i).f0.f4, .int .i64 (rd_T55 cur i).f1] 55)).drewN nd) := (HB.out.alloc (by omega) _).trans ((Drawn0.below ⟨⟨nd, rfl⟩⟩).mono (by simp; omega))
            refine ⟨i + 1, n1, ?_, ⟨by have := HLT.out; omega⟩, ⟨Nat.le_refl _⟩, ⟨hb0.setCell (p := ⟨W.heap.size, 5, none⟩) (Nat.le_refl _) _⟩, ⟨?_⟩, HA3⟩
            · rw [show wrap64 ((i : Int) + 1) = ((i + 1 : Nat) : Int) by unfold wrap64; omega]
            · exact blk_set (w := (wr.alloc _).drewN nd) (HS2a _) 5 (.int .i64 n1)
        · obtain ⟨rfl, rfl⟩ : n1 = t ∧ e1 = e := by
            have := HA3.out
            rw [if_neg he] at this
            exact Prod.mk.inj (Option.some.inj this)
          have hr1 : (r1, r2) = (([] : List S55), e1) := by
            have := HREST.out
            rw [if_neg he] at this
            exact (Option.some.inj this).symm
          obtain ⟨rfl, rfl⟩ := Prod.mk.inj hr1
          have hWlt : W.heap.size < wr.heap.size := (Array.getElem?_eq_some_iff.mp HS2.out).1
          have HS2a : ∀ o, (wr.alloc o).heap[W.heap.size]? = some (.cells #[.string (rd_T55 cur 0).f0.f0, .string (rd_T55 cur 0).f0.f1, .string (rd_T55 cur 0).f0.f2, .string (rd_T55 cur 0).f0.f3, .int .i64 (rd_T55 cur 0).f0.f4, .int .i64 acc] 55 (0, 0)) := fun o => (Below.heap_alloc wr o W.heap.size hWlt).trans HS2.out
          have q5a : ∀ o, (wr.alloc o).cell? ⟨W.heap.size, 5, none⟩ = some (.int .i64 acc) := fun o => (blk_cell (HS2a o) 5).trans rfl
          have g5a : ∀ o, (wr.alloc o).frozen? ⟨W.heap.size, 5, none⟩ = false := fun o => blk_frozen (HS2a o) 5
          have FR := HF.out.below HB.out
          have l2 := blk_lt FR.r2
          have l3 := blk_lt FR.r3
          have HF2a : ∀ o, (wr.alloc o).heap[w.heap.size]? = some (.cells #[.slice none 0 0] 30 (0, 0)) := fun o => (Below.heap_alloc wr o _ l2).trans FR.r2
          have HF3a : ∀ o, (wr.alloc o).heap[w.heap.size + 1]? = some (.cells #[.int .i64 0] 31 (0, 0)) := fun o => (Below.heap_alloc wr o _ l3).trans FR.r3
          have q2a : ∀ o, (wr.alloc o).cell? ⟨w.heap.size, 0, none⟩ = some (.slice none 0 0) := fun o => (blk_cell (HF2a o) 0).trans rfl
          have g2a : ∀ o, (wr.alloc o).frozen? ⟨w.heap.size, 0, none⟩ = false := fun o => blk_frozen (HF2a o) 0
          have q3a : ∀ o, (wr.alloc o).cell? ⟨w.heap.size + 1, 0, none⟩ = some (.int .i64 0) := fun o => (blk_cell (HF3a o) 0).trans rfl
          have g3a : ∀ o, (wr.alloc o).frozen? ⟨w.heap.size + 1, 0, none⟩ = false := fun o => blk_frozen (HF3a o) 0
          have he1 : decide (r2 = 0) = false := decide_eq_false he
          have he2 : (r2 == 0) = false := by simpa using he
          gi_wp2_with (refine ⟨trivial, ?_⟩; gi_at_call 28; refine (CallsIn.inRound _ (callsIn_wide.2 (cent_Add.calls _ _ n1 r2 _ HADD.out))).mono ?_; rintro e' w' ⟨rfl, ⟨nd, rfl⟩⟩)
          exact ⟨(FR.below (((Below.refl _ wr).alloc (Nat.le_refl _) _).trans ((Drawn0.below ⟨⟨nd, rfl⟩⟩).mono (by simp)))).fin r2, rfl⟩
      · obtain rfl : i = runLen cur := by have := HI.out; omega
        have hA2 := HA2.out
        rw [List.drop_of_length_le (by rw [List.length_take]; omega)] at hA2
        obtain ⟨rfl, rfl⟩ : acc = t ∧ 0 = e := Prod.mk.inj (Option.some.inj hA2)
        have hrest := HREST.out
        rw [if_pos rfl] at hrest
        have FR := HF.out.below HB.out
        by_cases ht : acc = 0
        · subst ht
          rw [if_pos rfl] at hrest
          have HR2 := Aside0.mk hrest
          clear hA2 hrest HREST
          gi_wp2
          exact ⟨vo, out, k1, FR, HR2.out⟩
        · rw [if_neg ht] at hrest
          by_cases hol : out.length < 1759218604441
          · rw [if_pos hol] at hrest
            have HR2 := Aside0.mk hrest
            have he2 : (acc != 0) = true := by simpa using ht
            have hd1 : decide (acc = 0) = false := decide_eq_false ht
            clear hA2 hrest HREST
            obtain ⟨Ao, co, evo, hco, _⟩ := Kd.R_reads FR.ro
            subst evo
            have p4 := (blk_cell FR.r4 0).trans (show (#[Value.slice Ao out.length co])[0]? = some (Value.slice Ao out.length co) from rfl)
            have p0 := (blk_cell HS2.out 0).trans (show (#[Value.string (rd_T55 cur 0).f0.f0, .string (rd_T55 cur 0).f0.f1, .string (rd_T55 cur 0).f0.f2, .string (rd_T55 cur 0).f0.f3, .int .i64 (rd_T55 cur 0).f0.f4, .int .i64 acc])[0]? = some _ from rfl)
            have p1 := (blk_cell HS2.out 1).trans (show (#[Value.string (rd_T55 cur 0).f0.f0, .string (rd_T55 cur 0).f0.f1, .string (rd_T55 cur 0).f0.f2, .string (rd_T55 cur 0).f0.f3, .int .i64 (rd_T55 cur 0).f0.f4, .int .i64 acc])[1]? = some _ from rfl)
            have p2 := (blk_cell HS2.out 2).trans (show (#[Value.string (rd_T55 cur 0).f0.f0, .string (rd_T55 cur 0).f0.f1, .string (rd_T55 cur 0).f0.f2, .string (rd_T55 cur 0).f0.f3, .int .i64 (rd_T55 cur 0).f0.f4, .int .i64 acc])[2]? = some _ from rfl)
            have p3 := (blk_cell HS2.out 3).trans (show (#[Value.string (rd_T55 cur 0).f0.f0, .string (rd_T55 cur 0).f0.f1, .string (rd_T55 cur 0).f0.f2, .string (rd_T55 cur 0).f0.f3, .int .i64 (rd_T55 cur 0).f0.f4, .int .i64 acc])[3]? = some _ from rfl)
            have p4' := (blk_cell HS2.out 4).trans (show (#[Value.string (rd_T55 cur 0).f0.f0, .string (rd_T55 cur 0).f0.f1, .string (rd_T55 cur 0).f0.f2, .string (rd_T55 cur 0).f0.f3, .int .i64 (rd_T55 cur 0).f0.f4, .int .i64 acc])[4]? = some _ from rfl)
            have FRA := Aside0.mk FR
            clear FR
            gi_wp2_with (gi_at_builtin; refine append_in k55 (w0 := w) w.heap.size rfl (.tmp 46) (.tmp 48) 30 55 (.agg #[(.string ⟨#[]⟩), (.string ⟨#[]⟩), (.string ⟨#[]⟩), (.string ⟨#[]⟩), (.int .i64 0), (.int .i64 0)]) 80 rfl Try.underlying30 info55 rfl (by decide) (by omega) (.slice Ao out.length co) out ⟨(rd_T55 cur 0).f0, acc⟩ [.string (rd_T55 cur 0).f0.f0, .string (rd_T55 cur 0).f0.f1, .string (rd_T55 cur 0).f0.f2, .string (rd_T55 cur 0).f0.f3, .int .i64 (rd_T55 cur 0).f0.f4, .int .i64 acc] (fun k => k ≠ gs) (fun _ => False) rfl rfl (k55_mkM _ _ _ _) (fun _ hk => hk.elim) ?aF FRA.out.ro FRA.out.rb FRA.out.rb.size (by omega) ?_; (case aF => intro k hk; have := FRA.out.lt; have := blk_lt FRA.out.rL; omega); intro v1 w1 hro hbb hgr; obtain ⟨A9, c9, ev9, _, _⟩ := Kd.R_reads hro; subst ev9; have HG2 := Aside0.mk (FRA.out.grow hgr hro); have n4 := Kd.R_ne FRA.out.ro FRA.out.r4 (by decide); have y4 := (hgr.block _ (blk_lt FRA.out.r4) n4).trans FRA.out.r4; have q4 := (blk_cell y4 0).trans (show (#[Value.slice Ao out.length co])[0]? = some (Value.slice Ao out.length co) from rfl); have g4 := blk_frozen y4 0; clear hro hbb hgr n4 y4)
            have HG3 := HG2.out
            rw [show (out ++ [{ f0 := (rd_T55 cur 0).f0, f1 := acc : S55 }]).length = out.length + 1 by simp] at HG3
            exact ⟨_, _, k1, HG3, HR2.out⟩
          · rw [if_neg hol] at hrest
            cases hrest
  case done =>
    rintro oL vo out k1 W hF hk
    obtain ⟨Ao, co, evo, hco, _⟩ := Kd.R_reads hF.ro
    subst evo
    have c4 := (blk_cell hF.r4 0).trans (show (#[Value.slice Ao out.length co])[0]? = some (Value.slice Ao out.length co) from rfl)
    have c2 := (blk_cell hF.r2 0).trans (show (#[Value.slice none 0 0])[0]? = some (Value.slice none 0 0) from rfl)
    have c3 := (blk_cell hF.r3 0).trans (show (#[Value.int .i64 0])[0]? = some (Value.int .i64 0) from rfl)
    have f2 := blk_frozen hF.r2 0
    have f3 := blk_frozen hF.r3 0
    have HF := Aside0.mk hF
    have HCO := Aside0.mk hco
    cases k1 with
    | zero => exact absurd hk (by simp [ofGo])
    | succ k1 =>
      have hk' : (if (out.length : Int) > 2000 then some (([] : List S55), (4 : Int)) else some (out, 0)) = some (r1, r2) := by simpa [ofGo] using hk
      clear hk hF hco
      by_cases hbig : (out.length : Int) > 2000
      · rw [if_pos hbig] at hk'
        obtain ⟨rfl, rfl⟩ := Prod.mk.inj (Option.some.inj hk')
        have hb1 : decide (2000 < (out.length : Int)) = true := decide_eq_true hbig
        have hb2 : decide (2000 < out.length) = true := decide_eq_true (by omega)
        clear hk' hbig
        gi_wp2
        have s2 := blk_set HF.out.r2 0 (.slice none 0 0)
        have s3 := blk_set (blk_far HF.out.r3 (p := ⟨w.heap.size, 0, none⟩) (by show w.heap.size + 1 ≠ w.heap.size; omega) (.slice none 0 0)) 0 (.int .i64 4)
        have s2' := blk_far s2 (p := ⟨w.heap.size + 1, 0, none⟩) (by show w.heap.size ≠ w.heap.size + 1; omega) (.int .i64 4)
        have sD := (Below.heap_setCell _ ⟨w.heap.size + 1, 0, none⟩ (.int .i64 4) (w4.heap.size + 2) (by show w4.heap.size + 2 ≠ w.heap.size + 1; have := HZ4.out; omega)).trans ((Below.heap_setCell W ⟨w.heap.size, 0, none⟩ (.slice none 0 0) (w4.heap.size + 2) (by show w4.heap.size + 2 ≠ w.heap.size; have := HZ4.out; omega)).trans HF.out.rD)
        refine of_cells _ w.heap.size (w4.heap.size + 2) _ _ _ rfl rfl s2' s3 sD _ ⟨_, rfl, Kd.R_nil _ _ _ _ _, ?_⟩
        refine (((HF.out.rb.setCell (p := ⟨w.heap.size, 0, none⟩) (Nat.le_refl _) _).setCell (p := ⟨w.heap.size + 1, 0, none⟩) (by show _ ≤ w.heap.size + 1; omega) _)).grown (row := some (w4.heap.size + 2)) (grownBy_putObj' _ _ _) (by have := HF.out.rb.size; simpa using this) (fun k e => by cases e; have := HZ4.out; omega)
      · rw [if_neg hbig] at hk'
        obtain ⟨rfl, rfl⟩ := Prod.mk.inj (Option.some.inj hk')
        have hb1 : decide (2000 < (out.length : Int)) = false := decide_eq_false hbig
        have hb2 : decide (2000 < out.length) = false := decide_eq_false (by omega)
        clear hk' hbig
        gi_wp2
        have s2 := blk_set HF.out.r2 0 (.slice Ao out.length co)
        have s3' := blk_far HF.out.r3 (p := ⟨w.heap.size, 0, none⟩) (by show w.heap.size + 1 ≠ w.heap.size; omega) (.slice Ao out.length co)
        have s3 := blk_set s3' 0 (.int .i64 0)
        have s2' := blk_far s2 (p := ⟨w.heap.size + 1, 0, none⟩) (by show w.heap.size ≠ w.heap.size + 1; omega) (.int .i64 0)
        have sD := (Below.heap_setCell _ ⟨w.heap.size + 1, 0, none⟩ (.int .i64 0) (w4.heap.size + 2) (by show w4.heap.size + 2 ≠ w.heap.size + 1; have := HZ4.out; omega)).trans ((Below.heap_setCell W ⟨w.heap.size, 0, none⟩ (.slice Ao out.length co) (w4.heap.size + 2) (by show w4.heap.size + 2 ≠ w.heap.size; have := HZ4.out; omega)).trans HF.out.rD)
        have hR1 := Kd.R_set HF.out.ro HF.out.r2 (by decide) 0 (.slice Ao out.length co)
        have hR2 := Kd.R_set hR1 s3' (by decide) 0 (.int .i64 0)
        refine of_cells _ w.heap.size (w4.heap.size + 2) _ _ _ rfl rfl s2' s3 sD _ ⟨_, rfl, ?_, ?_⟩
        · refine Kd.R_mono (Kd.R_move (Kd.R_bound hR2) (fun k hk => World.putObj_heap_other ?_)) (fun k hk => trivial)
          rintro rfl
          obtain ⟨_, _, _, q, _, cells, hq⟩ := hk
          rw [sD] at hq
          cases hq
        · refine (((HF.out.rb.setCell (p := ⟨w.heap.size, 0, none⟩) (Nat.le_refl _) _).setCell (p := ⟨w.heap.size + 1, 0, none⟩) (by show _ ≤ w.heap.size + 1; omega) _)).grown (row := some (w4.heap.size + 2)) (grownBy_putObj' _ _ _) (by have := HF.out.rb.size; simpa using this) (fun k e => by cases e; have := HZ4.out; omega)
  case stop =>
    rintro oL W hF hr
    obtain rfl : r1 = [] := hr
    have HF := Aside0.mk hF
    clear hF
    gi_wp2
    refine of_cells _ w.heap.size (w4.heap.size + 2) _ _ _ rfl rfl HF.out.r2 HF.out.r3 HF.out.rD _ ⟨_, rfl, Kd.R_nil _ _ _ _ _, ?_⟩
    exact HF.out.rb.grown (row := some (w4.heap.size + 2)) (grownBy_putObj' _ _ _) HF.out.rb.size (fun k e => by cases e; have := HZ4.out; omega)
end Go.Proofs.Ytdckeflggcefbaa.Y
namespace Go.Proofs.Ytdckeflggcefbaa.Y
open Go.RowKit Go.Proofs.YtdckeflggcefbaaW.PrintWords Go.Proofs.YtdckeflggcefbaaW.PrintLast Go.Proofs.YtdckeflggcefbaaW.PrintMore
attribute [local go_sem] max2_int min2_int max_two min_two max_three min_three max_four min_four   -- for this text's walks alone
set_option linter.unusedVariables false
set_option linter.unusedSimpArgs false

/-! ### fact_Add: function 9 -/
def fact_Add.f (k : Nat) (l0 : List (S55)) (l1 : List (S55)) : Option ((List (S55)) × Int) := (fact_Fact_25.f k (([l0, l1] : List (List (S55))))).bind fun t172 => ((fact_Of.f k t172).bind fun bt175 => (some (bt175.1, bt175.2)))
theorem fact_Add.mono : ∀ a0 a1 k, LeO (fact_Add.f k a0 a1) (fact_Add.f (k + 1) a0 a1) := by
 intro a0 a1 k
 unfold fact_Add.f
 repeat' first
   | (with_reducible exact fact_Fact_25.mono _ _)
   | (with_reducible exact fact_Of.mono _ _)
   | (with_reducible exact LeO.refl _)
   | (with_reducible exact LeO.none _)
   | (with_reducible refine LeO.ite ?_ ?_)
   | (with_reducible refine LeO.bind ?_ (fun _ => ?_))
   | exact fact_Fact_25.mono _ _
   | exact fact_Of.mono _ _
   | exact LeO.none _
   | refine LeO.ite ?_ ?_
   | refine LeO.bind ?_ (fun _ => ?_)
set_option maxHeartbeats 8000000 in
set_option maxRecDepth 100000 in
theorem fact_Add.calls (k : Nat) (P0_ : Nat → Prop) (A0 : Option Addr) (c0 : Nat) (l0 : List (S55)) (P1_ : Nat → Prop) (A1 : Option Addr) (c1 : Nat) (l1 : List (S55)) (r1 : List (S55)) (r2 : Int) (w : World) (hs0 : Kd.V k55 55 w w.heap.size (fun k_ => P0_ k_) (.slice A0 l0.length c0) l0) (hs1 : Kd.V k55 55 w w.heap.size (fun k_ => P1_ k_) (.slice A1 l1.length c1) l1) (h : fact_Add.f k l0 l1 = some (r1, r2)) :
  Calls Try.prog 9 #[.slice A0 l0.length c0, .slice A1 l1.length c1] w fun e w' => ∃ v0_ : Value, e = .returned (.tuple #[v0_, .int .i64 r2]) ∧ Kd.R k55 55 w' w.heap.size (fun k_ => (w.heap.size ≤ k_)) v0_ r1 ∧ Below w.heap.size w w' := by
 have HO0 := Aside0.mk (show Kd.V k55 55 w w.heap.size (fun k_ => ((P0_ k_ ∨ P1_ k_) ∨ w.heap.size ≤ k_)) (.slice A0 l0.length c0) l0 from Kd.V_mono hs0 (fun k_ hk => .inl (.inl hk)))
 have HO1 := Aside0.mk (show Kd.V k55 55 w w.heap.size (fun k_ => ((P0_ k_ ∨ P1_ k_) ∨ w.heap.size ≤ k_)) (.slice A1 l1.length c1) l1 from Kd.V_mono hs1 (fun k_ hk => .inl (.inr hk)))
 have HB := Aside0.mk (Below.refl w.heap.size w)
 have H : ((fact_Fact_25.f k (([l0, l1] : List (List (S55))))).bind fun t172 => ((fact_Of.f k t172).bind fun bt175 => (some (bt175.1, bt175.2)))) = some (r1, r2) := h
 clear h
 obtain ⟨y169, hy169⟩ : ∃ y_ : List (List (S55)), y_ = (([l0, l1] : List (List (S55)))) := ⟨_, rfl⟩
 replace H : ((fact_Fact_25.f k y169).bind fun t172 => ((fact_Of.f k t172).bind fun bt175 => (some (bt175.1, bt175.2)))) = some (r1, r2) := by first | (rw [hy169]; with_reducible exact H) | (have H2_ := (Option.bind_some _ _).symm.trans H; rw [hy169]; with_reducible exact H2_) | (have H2_ := (Option.bind_some _ _).symm.trans H; with_reducible exact H2_) | with_reducible exact H | (rw [hy169]; exact H) | exact H
 have Ny169 := Aside0.mk hy169
 clear hy169
 replace H := Option.bind_eq_some_iff.mp H
 obtain ⟨t172, A30, H⟩ := H
 replace H : ((fact_Of.f k t172).bind fun bt175 => (some (bt175.1, bt175.2))) = some (r1, r2) := H
 have A3 := Aside0.mk A30
 clear A30
 replace H := Option.bind_eq_some_iff.mp H
 obtain ⟨⟨t175, t176⟩, A40, H⟩ := H
 replace H : (some (t175, t176)) = some (r1, r2) := H
 have A4 := Aside0.mk A40
 clear A40
 simp only [Option.some.injEq, Prod.mk.injEq] at H
 obtain ⟨rfl, rfl⟩ := H
 go_enter Try.func9, Try.ntmps9
 go_wp2_with (first | ((with_reducible refine gate_dst (N := 8) rfl ?_); refine Kd.N_lit (Kd.slice 55 k55) _ 30 ?hg (N' := 8) ?hd (xs := ([l0, l1] : List (List (S55)))) (inner := [.slice A0 l0.length c0, .slice A1 l1.length c1]) (ok := (fun k_ => ((P0_ k_ ∨ P1_ k_) ∨ w.heap.size ≤ k_))) (okp := (fun k_ => ((P0_ k_ ∨ P1_ k_) ∨ w.heap.size ≤ k_))) ?hr ?hp (fun _ hk => hk) ((show ∀ k_, w.heap.size ≤ k_ → (fun k_ => ((P0_ k_ ∨ P1_ k_) ∨ w.heap.size ≤ k_)) k_ from fun k_ hk => (.inr (Nat.le_trans (below_size bw) hk))) _ (Nat.le_refl _)) (Below.refl _ _) (Nat.le_refl _) (by simp) ?_; (case hd => rfl); (case hg => rfl); (case hr => first | (go_simp; done) | (go_simp; rfl)); (case hp => exact (Reps.one (show Kd.FK (Kd.slice 55 k55) _ _ l0 [.slice A0 l0.length c0] from (Kd.FK_slice_mk (Kd.V_reads' (Kd.V_mono (ok' := (fun k_ => ((P0_ k_ ∨ P1_ k_) ∨ w.heap.size ≤ k_))) (HO0.out) (fun k_ hk => hk))).2.1 (Kd.V_F (Kd.V_mono (ok' := (fun k_ => ((P0_ k_ ∨ P1_ k_) ∨ w.heap.size ≤ k_))) (HO0.out) (fun k_ hk => hk))))) (Reps.one (show Kd.FK (Kd.slice 55 k55) _ _ l1 [.slice A1 l1.length c1] from (Kd.FK_slice_mk (Kd.V_reads' (Kd.V_mono (ok' := (fun k_ => ((P0_ k_ ∨ P1_ k_) ∨ w.heap.size ≤ k_))) (HO1.out) (fun k_ hk => hk))).2.1 (Kd.V_F (Kd.V_mono (ok' := (fun k_ => ((P0_ k_ ∨ P1_ k_) ∨ w.heap.size ≤ k_))) (HO1.out) (fun k_ hk => hk))))) (Reps.none _ _)))); intro v170 w5 ho6 hb hg_ hnew_; clear hg_ hnew_; (first | rw [← Ny169.out] at ho6 | (simp only [Int.reduceToNat] at ho6; rw [← Ny169.out] at ho6)); have n0_ := Aside0.mk (Kd.V_elder' (by (with_reducible repeat (first | apply Kd.V_alloc | apply Kd.V_drewN | apply Kd.V_drew)); exact HO0.out) (Kd.N_base ho6) hb); have n1_ := Aside0.mk (Kd.V_elder' (by (with_reducible repeat (first | apply Kd.V_alloc | apply Kd.V_drewN | apply Kd.V_drew)); exact HO1.out) (Kd.N_base ho6) hb); have n2_ := Aside0.mk (Kd.N_lower ho6 (below_size bw)); have n3_ := Aside0.mk (below_step bw hb); clear HO0; clear HO1; clear HB; have HO0 := n0_; have HO1 := n1_; have HO171 := n2_; have HB := n3_; clear n0_ n1_ n2_ n3_; clear hb ho6; obtain ⟨Ao7, co7, eo7⟩ := Kd.N_slice HO171.out; subst eo7) | ((with_reducible refine gate_callee (f := 25) rfl ?_); refine goesL_ (some 9) rfl rfl Try.func25 (by kernel_rfl) rfl #[.slice Ao7 y169.length co7] rfl mp_ ?_; (with_reducible refine (fact_Fact_25.calls k _ _ y169 t172 _ ?side1 ?side2 A3.out).mono ?_); (case side1 => repeat (first | exact (Kd.N_reads' HO171.out).2.2 | (with_reducible refine Kd.C_alloc ?_ _) | (with_reducible refine Kd.C_drewN ?_ _) | (with_reducible refine Kd.C_drew ?_))); (case side2 => exact (Kd.N_reads' HO171.out).2.1); rintro e w8 ⟨v173, rfl, ho0, hb⟩; refine ⟨_, rfl, ?_⟩; have n0_ := Aside0.mk (Kd.V_elder' (by (with_reducible repeat (first | apply Kd.V_alloc | apply Kd.V_drewN | apply Kd.V_drew)); exact HO0.out) (Kd.R_base ho0) hb); have n1_ := Aside0.mk (Kd.V_elder' (by (with_reducible repeat (first | apply Kd.V_alloc | apply Kd.V_drewN | apply Kd.V_drew)); exact HO1.out) (Kd.R_base ho0) hb); have n2_ := Aside0.mk (Kd.N_elder' (by (with_reducible repeat (first | apply Kd.N_alloc | apply Kd.N_drewN | apply Kd.N_drew)); exact HO171.out) (Kd.R_base ho0) hb); have n3_ := Aside0.mk (Kd.R_lower (Kd.R_newM (M := fun k_ => (w.heap.size ≤ k_)) ho0 (below_size bw) (fun k_ h_ => h_)) (below_size bw)); have n4_ := Aside0.mk (below_step bw hb); clear HO0; clear HO1; clear HO171; clear HB; have HO0 := n0_; have HO1 := n1_; have HO171 := n2_; have HO174 := n3_; have HB := n4_; clear n0_ n1_ n2_ n3_ n4_; (try clear hb); (try clear hb2); (try clear hk); (try clear hi); (try clear ho0); obtain ⟨Ao9, co9, eo9⟩ := Kd.R_slice HO174.out; subst eo9) | ((with_reducible refine gate_callee (f := 21) rfl ?_); refine goesL_ (some 10) rfl rfl Try.func21 (by kernel_rfl) rfl #[.slice Ao9 t172.length co9] rfl mp_ ?_; (with_reducible refine (fact_Of.calls k _ _ t172 t175 t176 _ ?side1 ?side2 A4.out).mono ?_); (case side1 => repeat (first | exact (Kd.R_reads' HO174.out).2.2 | (with_reducible refine Kd.C_alloc ?_ _) | (with_reducible refine Kd.C_drewN ?_ _) | (with_reducible refine Kd.C_drew ?_))); (case side2 => exact (Kd.R_reads' HO174.out).2.1); rintro e w10 ⟨v177, rfl, ho0, hb⟩; refine ⟨_, rfl, ?_⟩; have n0_ := Aside0.mk (Kd.V_elder' (by (with_reducible repeat (first | apply Kd.V_alloc | apply Kd.V_drewN | apply Kd.V_drew)); exact HO0.out) (Kd.R_base ho0) hb); have n1_ := Aside0.mk (Kd.V_elder' (by (with_reducible repeat (first | apply Kd.V_alloc | apply Kd.V_drewN | apply Kd.V_drew)); exact HO1.out) (Kd.R_base ho0) hb); have n2_ := Aside0.mk (Kd.N_elder' (by (with_reducible repeat (first | apply Kd.N_alloc | apply Kd.N_drewN | apply Kd.N_drew)); exact HO171.out) (Kd.R_base ho0) hb); have n3_ := Aside0.mk (Kd.R_elder' (kr HO174) (Kd.R_base ho0) hb); have n4_ := Aside0.mk (Kd.R_lower (Kd.R_new' (Kd.R_newM (M := fun k_ => (w.heap.size ≤ k_)) ho0 (below_size bw) (fun k_ h_ => h_)) (Kd.R_lt (kr HO174))) (below_size bw)); have n5_ := Aside0.mk (below_step bw hb); clear HO0; clear HO1; clear HO171; clear HO174; clear HB; have HO0 := n0_; have HO1 := n1_; have HO171 := n2_; have HO174 := n3_; have HO178 := n4_; have HB := n5_; clear n0_ n1_ n2_ n3_ n4_ n5_; (try clear hb); (try clear hb2); (try clear hk); (try clear hi); (try clear ho0)))
 go_ret2
 exact ⟨_, by first | rfl | (simp [errW_none, errW_some] <;> rfl) | (simp [*, errW_none, errW_some] <;> rfl), by (with_reducible repeat (first | apply Kd.R_alloc | apply Kd.R_drewN | apply Kd.R_drew)); exact Kd.R_mono HO178.out (fun _ hk => hk.1.1), bw⟩

end Go.Proofs.Ytdckeflggcefbaa.Y
namespace Go.Proofs.Ytdckeflggcefbaa.Y
open Go.RowKit Go.Proofs.YtdckeflggcefbaaW.PrintWords Go.Proofs.YtdckeflggcefbaaW.PrintLast Go.Proofs.YtdckeflggcefbaaW.PrintMore
set_option linter.unusedVariables false
set_option linter.unusedSimpArgs false
theorem Concat_ev (a b : List S55) (h : a.length + b.length ≤ 1000000) : Ev (fun k => fact_Fact_25.f k [a, b]) (a ++ b) := by
  refine ⟨10, fun k hk => ?_⟩
  obtain ⟨k, rfl⟩ : ∃ j, k = j + 10 := ⟨k - 10, by omega⟩
  have w0 : wrap64 1 = 1 := w64 (by omega) (by omega)
  have w1 : wrap64 ((a.length : Int)) = a.length := w64 (by omega) (by omega)
  have w2 : wrap64 ((a.length : Int) + b.length) = (a.length : Int) + b.length := w64 (by omega) (by omega)
  have w3 : wrap64 2 = 2 := w64 (by omega) (by omega)
  have r0 : rd_L4 [a, b] 0 = a := rfl
  have r1 : rd_L4 [a, b] 1 = b := rfl
  have n1 : ¬ (a.length : Int) < 0 := by omega
  have n2 : ¬ (a.length : Int) + b.length < 0 := by omega
  have n3 : a.length < 1759218604441 := by omega
  have n4 : a.length + b.length < 1759218604441 := by omega
  have n5 : (a.length : Int) + b.length < 1759218604441 := by omega
  simp [fact_Fact_25.f, fact_Fact_25.l0, fact_Fact_25.l1, fact_Grow.f, w0, w1, w2, w3, r0, r1, n1, n2, n3, n4, n5]
  rw [if_pos (by omega)]
  simp [n3, n4]
theorem Add_ev (a b : List S55) (hl : a.length + b.length ≤ 2000) (hb : ∀ x, abt x (a ++ b) ≤ 4611686018427387904) : ∃ r, Ev (fun k => fact_Add.f k a b) (r, 0) ∧ IsCube (a ++ b) r ∧ r.length ≤ a.length + b.length := by
  obtain ⟨r, g1, g2, g3⟩ := Of_ev (a ++ b) (by simp; omega) hb
  refine ⟨r, ?_, g2, by simpa using g3⟩
  unfold fact_Add.f
  exact Ev.bind (g := fun k t => (fact_Of.f k t).bind fun bt => some (bt.1, bt.2)) (Concat_ev a b (by omega)) (Ev.bind (g := fun _ bt => some (bt.1, bt.2)) g1 (Ev.const fun _ => rfl))
theorem few_ev : ∀ (R P : List S28), (P ++ R).length ≤ 9223372036854775807 → ∃ b, Ev (fun k => comptrollerlaw09_Few.l0 k (P ++ R) (P ++ R) (P ++ R).length P.length) b ∧ (b = true → (P ++ R).length ≤ 150)
  | [], P, h => by
    refine ⟨decide (((P ++ []).length : Int) ≤ 150), Ev.some fun k => ?_, fun hb => by have := of_decide_eq_true hb; omega⟩
    simp only [comptrollerlaw09_Few.l0]
    rw [if_neg (by simp)]
  | x :: R, P, h => by
    have hl : (P ++ x :: R).length = P.length + R.length + 1 := by simp; omega
    obtain ⟨b, hb, hb2⟩ := few_ev R (P ++ [x]) (by simp at h ⊢; omega)
    have st : ∀ k, comptrollerlaw09_Few.l0 (k + 1) (P ++ x :: R) (P ++ x :: R) (P ++ x :: R).length P.length = if (x.f0.f0.size : Int) > 40 then some false else if (x.f0.f1.size : Int) > 40 then some false else if (x.f0.f2.size : Int) > 40 then some false else if (x.f0.f3.size : Int) > 40 then some false else comptrollerlaw09_Few.l0 k (P ++ x :: R) (P ++ x :: R) (P ++ x :: R).length ((P ++ [x]).length : Nat) := fun k => by
      simp only [comptrollerlaw09_Few.l0]
      rw [hl] at h ⊢
      rw [if_pos (by omega), if_pos (by omega), if_pos (by omega), rd28_app P R x _ rfl, w64 (n := (P.length : Int) + 1) (by omega) (by omega), show ((P ++ [x]).length : Int) = (P.length : Int) + 1 by simp]
    by_cases c : (x.f0.f0.size : Int) > 40 ∨ (x.f0.f1.size : Int) > 40 ∨ (x.f0.f2.size : Int) > 40 ∨ (x.f0.f3.size : Int) > 40
    · refine ⟨false, Ev.some fun k => ?_, fun e => by cases e⟩
      rw [st]
      by_cases c1 : (x.f0.f0.size : Int) > 40
      · rw [if_pos c1]
      rw [if_neg c1]
      by_cases c2 : (x.f0.f1.size : Int) > 40
      · rw [if_pos c2]
      rw [if_neg c2]
      by_cases c3 : (x.f0.f2.size : Int) > 40
      · rw [if_pos c3]
      rw [if_neg c3, if_pos (by omega)]
    · refine ⟨b, Ev.step (g := fun k => comptrollerlaw09_Few.l0 k (P ++ x :: R) (P ++ x :: R) (P ++ x :: R).length ((P ++ [x]).length : Nat)) (by simpa using hb) fun k => ?_, fun e => by simpa using hb2 e⟩
      show comptrollerlaw09_Few.l0 (k + 1) _ _ _ _ = _
      rw [st, if_neg (by omega), if_neg (by omega), if_neg (by omega), if_neg (by omega)]
theorem Few_ev (l : List S28) (h : l.length ≤ 9223372036854775807) : ∃ b, Ev (fun k => comptrollerlaw09_Few.f k l) b ∧ (b = true → l.length ≤ 150) := by
  simpa [comptrollerlaw09_Few.f] using few_ev l [] (by simpa using h)
theorem small_ev : ∀ (R P : List S28), (P ++ R).length ≤ 9223372036854775807 → ∃ b, Ev (fun k => comptrollerlaw09_small.l0 k (P ++ R) (P ++ R).length P.length) b ∧ (b = true → ∀ x ∈ R, x.f1.natAbs ≤ 4503599627370496)
  | [], P, h => by
    refine ⟨true, Ev.some fun k => ?_, fun hb => by simp⟩
    simp only [comptrollerlaw09_small.l0]
    rw [if_neg (by simp)]
  | x :: R, P, h => by
    have hl : (P ++ x :: R).length = P.length + R.length + 1 := by simp; omega
    obtain ⟨b, hb, hb2⟩ := small_ev R (P ++ [x]) (by simp at h ⊢; omega)
    have st : ∀ k, comptrollerlaw09_small.l0 (k + 1) (P ++ x :: R) (P ++ x :: R).length P.length = if x.f1 > 4503599627370496 then some false else if x.f1 < (-4503599627370496) then some false else comptrollerlaw09_small.l0 k (P ++ x :: R) (P ++ x :: R).length ((P ++ [x]).length : Nat) := fun k => by
      simp only [comptrollerlaw09_small.l0]
      rw [hl] at h ⊢
      rw [if_pos (by omega), if_pos (by omega), if_pos (by omega), rd28_app P R x _ rfl, w64 (n := (P.length : Int) + 1) (by omega) (by omega), show ((P ++ [x]).length : Int) = (P.length : Int) + 1 by simp]
    by_cases c1 : x.f1 > 4503599627370496
    · exact ⟨false, Ev.some fun k => by rw [st, if_pos c1], fun e => by cases e⟩
    by_cases c2 : x.f1 < (-4503599627370496)
    · exact ⟨false, Ev.some fun k => by rw [st, if_neg c1, if_pos c2], fun e => by cases e⟩
    refine ⟨b, Ev.step (g := fun k => comptrollerlaw09_small.l0 k (P ++ x :: R) (P ++ x :: R).length ((P ++ [x]).length : Nat)) (by simpa using hb) fun k => ?_, fun e y hy => ?_⟩
    · show comptrollerlaw09_small.l0 (k + 1) _ _ _ = _
      rw [st, if_neg c1, if_neg c2]
    · rcases List.mem_cons.1 hy with rfl | hy
      · omega
      · exact hb2 e y hy
theorem Small_ev (l : List S28) (h : l.length ≤ 9223372036854775807) : ∃ b, Ev (fun k => comptrollerlaw09_small.f k l) b ∧ (b = true → ∀ x ∈ l, x.f1.natAbs ≤ 4503599627370496) := by
  simpa [comptrollerlaw09_small.f] using small_ev l [] (by simpa using h)
end Go.Proofs.Ytdckeflggcefbaa.Y
namespace Go.Proofs.Ytdckeflggcefbaa.Y
open Go.RowKit Go.Proofs.YtdckeflggcefbaaW.PrintWords Go.Proofs.YtdckeflggcefbaaW.PrintLast Go.Proofs.YtdckeflggcefbaaW.PrintMore
attribute [local go_sem] max2_int min2_int max_two min_two max_three min_three max_four min_four   -- for this text's walks alone
set_option linter.unusedVariables false
set_option linter.unusedSimpArgs false

/-! ### fact_any: function 27 -/
def fact_any.f (a0 : ByteArray) (a1 : ByteArray) : Option (Bool) := if a0.toList = ([] : List UInt8) then (some true) else (some (a0.toList == a1.toList))
set_option maxHeartbeats 8000000 in
set_option maxRecDepth 100000 in
theorem fact_any.calls (a0 : ByteArray) (a1 : ByteArray) (r : Bool) (w : World) (h : fact_any.f a0 a1 = some r) :
  Calls Try.prog 27 #[.string a0, .string a1] w fun e w' => e = .returned (.bool r) ∧ Drawn0 w w' := by
 have H : (if a0.toList = ([] : List UInt8) then (some true) else (some (a0.toList == a1.toList))) = some r := h
 clear h
 by_cases c3 : a0.toList = ([] : List UInt8)
 ·rw [if_pos c3] at H
  have c3b0 : (a0.toList == ([] : List UInt8)) = true := beq_iff_eq.mpr c3
  have c3b1 : (a0.toList != ([] : List UInt8)) = false := bne_eq_false_iff_eq.mpr c3
  clear c3
  obtain rfl := Option.some.inj H
  go_enter Try.func27, Try.ntmps27
  go_wp2
  go_ret
  exact ⟨by first | rfl | (simp; done) | (simp [*]; done), by repeat (first | exact Drawn0.refl _ | apply Drawn0.step)⟩
 ·rw [if_neg c3] at H
  have c3b0 : (a0.toList == ([] : List UInt8)) = false := beq_eq_false_iff_ne.mpr c3
  have c3b1 : (a0.toList != ([] : List UInt8)) = true := bne_iff_ne.mpr c3
  obtain rfl := Option.some.inj H
  go_enter Try.func27, Try.ntmps27
  go_wp2
  go_ret
  exact ⟨by first | rfl | (simp; done) | (simp [*]; done), by repeat (first | exact Drawn0.refl _ | apply Drawn0.step)⟩
/-! ### fact_Sum: function 12 -/
mutual
def fact_Sum.l0 : Nat → ByteArray → ByteArray → ByteArray → Int → List (S55) → Int → Int → Option (Int × Int)
 | 0, _, _, _, _, _, _, _ => none
 | k + 1, x1, x2, x3, x8, x12, x13, x14 => if x14 < x13 then (if 0 ≤ x14 then (if x14 < (x12.length : Int) then ((fact_any.f x1 ((rd_T55 x12 x14).f0.f0)).bind fun t181 => (if t181 = true then ((fact_any.f x2 ((rd_T55 x12 x14).f0.f1)).bind fun t182 => (if t182 = true then ((fact_any.f x3 ((rd_T55 x12 x14).f0.f2)).bind fun t183 => (fact_Sum.j1 k x1 x2 x3 x8 x12 x13 x14 (!t183) ((rd_T55 x12 x14).f0.f0) ((rd_T55 x12 x14).f0.f1) ((rd_T55 x12 x14).f0.f2) ((rd_T55 x12 x14).f0.f3) ((rd_T55 x12 x14).f0.f4) ((rd_T55 x12 x14).f1))) else (fact_Sum.j1 k x1 x2 x3 x8 x12 x13 x14 true ((rd_T55 x12 x14).f0.f0) ((rd_T55 x12 x14).f0.f1) ((rd_T55 x12 x14).f0.f2) ((rd_T55 x12 x14).f0.f3) ((rd_T55 x12 x14).f0.f4) ((rd_T55 x12 x14).f1)))) else (fact_Sum.j1 k x1 x2 x3 x8 x12 x13 x14 true ((rd_T55 x12 x14).f0.f0) ((rd_T55 x12 x14).f0.f1) ((rd_T55 x12 x14).f0.f2) ((rd_T55 x12 x14).f0.f3) ((rd_T55 x12 x14).f0.f4) ((rd_T55 x12 x14).f1)))) else (none)) else (none)) else (some (x8, 0))
def fact_Sum.j1 : Nat → ByteArray → ByteArray → ByteArray → Int → List (S55) → Int → Int → Bool → ByteArray → ByteArray → ByteArray → ByteArray → Int → Int → Option (Int × Int)
 | 0, _, _, _, _, _, _, _, _, _, _, _, _, _, _ => none
 | k + 1, x1, x2, x3, x8, x12, x13, x14, x39, x181000, x181001, x181002, x181003, x181004, x181005 => if x39 = true then (fact_Sum.l0 k x1 x2 x3 x8 x12 x13 (wrap64 (x14 + 1))) else ((cent_Add.f x8 x181005).bind fun bt184 => (if bt184.2 = 0 then (fact_Sum.l0 k x1 x2 x3 bt184.1 x12 x13 (wrap64 (x14 + 1))) else (some (0, bt184.2))))
end
def fact_Sum.f (k : Nat) (l0 : List (S55)) (a1 : ByteArray) (a2 : ByteArray) (a3 : ByteArray) : Option (Int × Int) := fact_Sum.l0 k a1 a2 a3 0 l0 (l0.length : Int) 0
theorem fact_Sum.mono_l : ∀ k, (∀ y0 y1 y2 y3 y4 y5 y6, LeO (fact_Sum.l0 k y0 y1 y2 y3 y4 y5 y6) (fact_Sum.l0 (k + 1) y0 y1 y2 y3 y4 y5 y6)) ∧ (∀ y0 y1 y2 y3 y4 y5 y6 y7 y8 y9 y10 y11 y12 y13, LeO (fact_Sum.j1 k y0 y1 y2 y3 y4 y5 y6 y7 y8 y9 y10 y11 y12 y13) (fact_Sum.j1 (k + 1) y0 y1 y2 y3 y4 y5 y6 y7 y8 y9 y10 y11 y12 y13))
 | 0 => ⟨fun _ _ _ _ _ _ _ r h => by simp [fact_Sum.l0] at h, fun _ _ _ _ _ _ _ _ _ _ _ _ _ _ r h => by simp [fact_Sum.j1] at h⟩
 | k + 1 => by
  obtain ⟨ih0, ih1⟩ := fact_Sum.mono_l k
  refine ⟨?_, ?_⟩
  ·intro y0 y1 y2 y3 y4 y5 y6
   unfold fact_Sum.l0
   repeat' first
   | (with_reducible exact ih0 _ _ _ _ _ _ _)
   | (with_reducible exact ih1 _ _ _ _ _ _ _ _ _ _ _ _ _ _)
   | (with_reducible exact LeO.refl _)
   | (with_reducible exact LeO.none _)
   | (with_reducible refine LeO.ite ?_ ?_)
   | (with_reducible refine LeO.bind ?_ (fun _ => ?_))
   | exact ih0 _ _ _ _ _ _ _
   | exact ih1 _ _ _ _ _ _ _ _ _ _ _ _ _ _
   | exact LeO.none _
   | refine LeO.ite ?_ ?_
   | refine LeO.bind ?_ (fun _ => ?_)
  ·intro y0 y1 y2 y3 y4 y5 y6 y7 y8 y9 y10 y11 y12 y13
   unfold fact_Sum.j1
   repeat' first
   | (with_reducible exact ih0 _ _ _ _ _ _ _)
   | (with_reducible exact ih1 _ _ _ _ _ _ _ _ _ _ _ _ _ _)
   | (with_reducible exact LeO.refl _)
   | (with_reducible exact LeO.none _)
   | (with_reducible refine LeO.ite ?_ ?_)
   | (with_reducible refine LeO.bind ?_ (fun _ => ?_))
   | exact ih0 _ _ _ _ _ _ _
   | exact ih1 _ _ _ _ _ _ _ _ _ _ _ _ _ _
   | exact LeO.none _
   | refine LeO.ite ?_ ?_
   | refine LeO.bind ?_ (fun _ => ?_)
theorem fact_Sum.mono : ∀ a0 a1 a2 a3 k, LeO (fact_Sum.f k a0 a1 a2 a3) (fact_Sum.f (k + 1) a0 a1 a2 a3) := by
 intro a0 a1 a2 a3 k
 obtain ⟨ih0, ih1⟩ := fact_Sum.mono_l k
 unfold fact_Sum.f
 repeat' first
   | (with_reducible exact ih0 _ _ _ _ _ _ _)
   | (with_reducible exact ih1 _ _ _ _ _ _ _ _ _ _ _ _ _ _)
   | (with_reducible exact LeO.refl _)
   | (with_reducible exact LeO.none _)
   | (with_reducible refine LeO.ite ?_ ?_)
   | (with_reducible refine LeO.bind ?_ (fun _ => ?_))
   | exact ih0 _ _ _ _ _ _ _
   | exact ih1 _ _ _ _ _ _ _ _ _ _ _ _ _ _
   | exact LeO.none _
   | refine LeO.ite ?_ ?_
   | refine LeO.bind ?_ (fun _ => ?_)
set_option maxHeartbeats 8000000 in
set_option maxRecDepth 100000 in
theorem fact_Sum.calls (k : Nat) (A0 : Option Addr) (c0 : Nat) (l0 : List (S55)) (a1 : ByteArray) (a2 : ByteArray) (a3 : ByteArray) (r1 : Int) (r2 : Int) (w : World) (hr0 : Kd.C k55 w A0 l0.length l0) (hc0 : l0.length ≤ c0) (h : fact_Sum.f k l0 a1 a2 a3 = some (r1, r2)) :
  Calls Try.prog 12 #[.slice A0 l0.length c0, .string a1, .string a2, .string a3] w fun e w' => e = .returned (.tuple #[.int .i64 r1, .int .i64 r2]) ∧ Below w.heap.size w w' := by
 have hu55 := Try.underlying55
 have HR0 := Aside0.mk hr0
 have HC0 := Aside0.mk hc0
 clear hr0 hc0
 have HB := Aside0.mk (Below.refl w.heap.size w)
 have H : (fact_Sum.l0 k a1 a2 a3 0 l0 (l0.length : Int) 0) = some (r1, r2) := h
 clear h
 have H' := Aside0.mk H
 clear H
 go_enter Try.func12, Try.ntmps12
 go_wp2
 go_loopg [8, 14] k (fun kq v8 v14 w' => ∃ (x8_1 : Int) (x14_1 : Int), v8 = .int .i64 x8_1 ∧ v14 = .int .i64 x14_1 ∧ Aside0 (fact_Sum.l0 kq a1 a2 a3 x8_1 l0 (l0.length : Int) x14_1 = some (r1, r2)) ∧ Aside0 (kq ≤ k) ∧ Aside0 (Below w.heap.size w w'))
 case atStart => exact ⟨(0), (0), rs_, rs_, H', ⟨Nat.le_refl _⟩, ⟨bw⟩⟩
 case round =>
  clear H'
  try clear c1
  try clear p2
  obtain ⟨x8_1, x14_1, rfl, rfl, HA, HK1, HB⟩ := hrel
  cases gk with
  | zero => exact absurd HA.out (by simp [fact_Sum.l0])
  | succ k1 =>
   have H := HA.out
   clear HA
   simp only [fact_Sum.l0] at H
   by_cases c5 : x14_1 < (l0.length : Int)
   ·rw [if_pos c5] at H
    have c5b0 : decide (x14_1 < (l0.length : Int)) = true := decide_eq_true c5
    clear c5
    by_cases c6 : 0 ≤ x14_1
    ·rw [if_pos c6] at H
     have c6b0 : decide (0 ≤ x14_1) = true := decide_eq_true c6
     clear c6
     by_cases c7 : x14_1 < (l0.length : Int)
     ·rw [if_pos c7] at H
      have c7b0 : decide (x14_1 < (l0.length : Int)) = true := decide_eq_true c7
      clear c7
      have HC8 := Aside0.mk H
      clear H
      have p179 : 0 ≤ (x14_1 : Int) := of_decide_eq_true as_
      have q179 : x14_1 < (l0.length : Int) := of_decide_eq_true as_
      obtain ⟨ad179, e179, hx179_0, hx179_1, hx179_2, hx179_3, hx179_4, hx179_5⟩ := at_T55 HR0.out x14_1 p179 q179
      cases e179
      replace hx179_0 := cb HB hx179_0
      replace hx179_1 := cb HB hx179_1
      replace hx179_2 := cb HB hx179_2
      replace hx179_3 := cb HB hx179_3
      replace hx179_4 := cb HB hx179_4
      replace hx179_5 := cb HB hx179_5
      replace p179 := eq_true p179
      replace q179 := eq_true q179
      go_upto_region 4 with (first | ((with_reducible refine gate_dst (N := 11) rfl ?_); refine box_event ?hg (N := 11) ?hd (cs := #[.string (⟨#[]⟩ : ByteArray), .string (⟨#[]⟩ : ByteArray), .string (⟨#[]⟩ : ByteArray), .string (⟨#[]⟩ : ByteArray), .int .i64 0, .int .i64 0]) (t := 55) ?hr ?_; (case hd => rfl); (case hg => rfl); (case hr => first | (go_simp; done) | (go_simp; rfl)); intro gb180 hg w9 hbox hb; have n0_ := Aside0.mk (below_step bw hb); have n1_ := Aside0.mk (hbox); have n2_ := Aside0.mk ((by rw [hg]; exact (below_size bw) : w.heap.size ≤ gb180)); have n3_ := Aside0.mk ((by rw [hg]; exact (below_size bw) : w.heap.size ≤ gb180)); clear HB; have HB := n0_; have BK180 := n1_; have GW180 := n2_; have GE180 := n3_; clear n0_ n1_ n2_ n3_; clear hb hbox hg; have hcz10_0 : w9.cell? ⟨gb180, 0, none⟩ = some (.string (⟨#[]⟩ : ByteArray)) := (blk_cell BK180.out 0).trans rfl; have hcz10_1 : w9.cell? ⟨gb180, 1, none⟩ = some (.string (⟨#[]⟩ : ByteArray)) := (blk_cell BK180.out 1).trans rfl; have hcz10_2 : w9.cell? ⟨gb180, 2, none⟩ = some (.string (⟨#[]⟩ : ByteArray)) := (blk_cell BK180.out 2).trans rfl; have hcz10_3 : w9.cell? ⟨gb180, 3, none⟩ = some (.string (⟨#[]⟩ : ByteArray)) := (blk_cell BK180.out 3).trans rfl; have hcz10_4 : w9.cell? ⟨gb180, 4, none⟩ = some (.int .i64 0) := (blk_cell BK180.out 4).trans rfl; have hcz10_5 : w9.cell? ⟨gb180, 5, none⟩ = some (.int .i64 0) := (blk_cell BK180.out 5).trans rfl; have hfz10_0 := blk_frozen BK180.out 0; have hfz10_1 := blk_frozen BK180.out 1; have hfz10_2 := blk_frozen BK180.out 2; have hfz10_3 := blk_frozen BK180.out 3; have hfz10_4 := blk_frozen BK180.out 4; have hfz10_5 := blk_frozen BK180.out 5))
      (try simp only [Act.put, List.setIfInBounds_toArray, List.set_cons_zero, List.set_cons_succ])
      go_cut [39] (fun v39 wc => ∃ (kq : Nat) (x39_7 : Bool), v39 = .bool x39_7 ∧ Aside0 (fact_Sum.j1 kq a1 a2 a3 x8_1 l0 (l0.length : Int) x14_1 x39_7 ((rd_T55 l0 x14_1).f0.f0) ((rd_T55 l0 x14_1).f0.f1) ((rd_T55 l0 x14_1).f0.f2) ((rd_T55 l0 x14_1).f0.f3) ((rd_T55 l0 x14_1).f0.f4) ((rd_T55 l0 x14_1).f1) = some (r1, r2)) ∧ Aside0 (kq ≤ k1) ∧ Aside0 (wc.heap[gb180]? = some (.cells #[.string ((rd_T55 l0 x14_1).f0.f0), .string ((rd_T55 l0 x14_1).f0.f1), .string ((rd_T55 l0 x14_1).f0.f2), .string ((rd_T55 l0 x14_1).f0.f3), .int .i64 ((rd_T55 l0 x14_1).f0.f4), .int .i64 ((rd_T55 l0 x14_1).f1)] 55 (0, 0))) ∧ Aside0 (Below w.heap.size w wc))
      case first =>
       have H := HC8.out
       clear HC8
       replace H := Option.bind_eq_some_iff.mp H
       obtain ⟨t181, A110, H⟩ := H
       replace H : (if t181 = true then ((fact_any.f a2 ((rd_T55 l0 x14_1).f0.f1)).bind fun t182 => (if t182 = true then ((fact_any.f a3 ((rd_T55 l0 x14_1).f0.f2)).bind fun t183 => (fact_Sum.j1 k1 a1 a2 a3 x8_1 l0 (l0.length : Int) x14_1 (!t183) ((rd_T55 l0 x14_1).f0.f0) ((rd_T55 l0 x14_1).f0.f1) ((rd_T55 l0 x14_1).f0.f2) ((rd_T55 l0 x14_1).f0.f3) ((rd_T55 l0 x14_1).f0.f4) ((rd_T55 l0 x14_1).f1))) else (fact_Sum.j1 k1 a1 a2 a3 x8_1 l0 (l0.length : Int) x14_1 true ((rd_T55 l0 x14_1).f0.f0) ((rd_T55 l0 x14_1).f0.f1) ((rd_T55 l0 x14_1).f0.f2) ((rd_T55 l0 x14_1).f0.f3) ((rd_T55 l0 x14_1).f0.f4) ((rd_T55 l0 x14_1).f1)))) else (fact_Sum.j1 k1 a1 a2 a3 x8_1 l0 (l0.length : Int) x14_1 true ((rd_T55 l0 x14_1).f0.f0) ((rd_T55 l0 x14_1).f0.f1) ((rd_T55 l0 x14_1).f0.f2) ((rd_T55 l0 x14_1).f0.f3) ((rd_T55 l0 x14_1).f0.f4) ((rd_T55 l0 x14_1).f1))) = some (r1, r2) := H
       have A11 := Aside0.mk A110
       clear A110
       by_cases c12 : t181 = true
       ·subst c12
        have H1 : ((fact_any.f a2 ((rd_T55 l0 x14_1).f0.f1)).bind fun t182 => (if t182 = true then ((fact_any.f a3 ((rd_T55 l0 x14_1).f0.f2)).bind fun t183 => (fact_Sum.j1 k1 a1 a2 a3 x8_1 l0 (l0.length : Int) x14_1 (!t183) ((rd_T55 l0 x14_1).f0.f0) ((rd_T55 l0 x14_1).f0.f1) ((rd_T55 l0 x14_1).f0.f2) ((rd_T55 l0 x14_1).f0.f3) ((rd_T55 l0 x14_1).f0.f4) ((rd_T55 l0 x14_1).f1))) else (fact_Sum.j1 k1 a1 a2 a3 x8_1 l0 (l0.length : Int) x14_1 true ((rd_T55 l0 x14_1).f0.f0) ((rd_T55 l0 x14_1).f0.f1) ((rd_T55 l0 x14_1).f0.f2) ((rd_T55 l0 x14_1).f0.f3) ((rd_T55 l0 x14_1).f0.f4) ((rd_T55 l0 x14_1).f1)))) = some (r1, r2) := by rw [if_pos rfl] at H; exact H
        clear H
        have H := H1
        clear H1
        replace H := Option.bind_eq_some_iff.mp H
        obtain ⟨t182, A130, H⟩ := H
        replace H : (if t182 = true then ((fact_any.f a3 ((rd_T55 l0 x14_1).f0.f2)).bind fun t183 => (fact_Sum.j1 k1 a1 a2 a3 x8_1 l0 (l0.length : Int) x14_1 (!t183) ((rd_T55 l0 x14_1).f0.f0) ((rd_T55 l0 x14_1).f0.f1) ((rd_T55 l0 x14_1).f0.f2) ((rd_T55 l0 x14_1).f0.f3) ((rd_T55 l0 x14_1).f0.f4) ((rd_T55 l0 x14_1).f1))) else (fact_Sum.j1 k1 a1 a2 a3 x8_1 l0 (l0.length : Int) x14_1 true ((rd_T55 l0 x14_1).f0.f0) ((rd_T55 l0 x14_1).f0.f1) ((rd_T55 l0 x14_1).f0.f2) ((rd_T55 l0 x14_1).f0.f3) ((rd_T55 l0 x14_1).f0.f4) ((rd_T55 l0 x14_1).f1))) = some (r1, r2) := H
        have A13 := Aside0.mk A130
        clear A130
        by_cases c14 : t182 = true
        ·subst c14
         have H1 : ((fact_any.f a3 ((rd_T55 l0 x14_1).f0.f2)).bind fun t183 => (fact_Sum.j1 k1 a1 a2 a3 x8_1 l0 (l0.length : Int) x14_1 (!t183) ((rd_T55 l0 x14_1).f0.f0) ((rd_T55 l0 x14_1).f0.f1) ((rd_T55 l0 x14_1).f0.f2) ((rd_T55 l0 x14_1).f0.f3) ((rd_T55 l0 x14_1).f0.f4) ((rd_T55 l0 x14_1).f1))) = some (r1, r2) := by rw [if_pos rfl] at H; exact H
         clear H
         have H := H1
         clear H1
         replace H := Option.bind_eq_some_iff.mp H
         obtain ⟨t183, A150, H⟩ := H
         replace H : (fact_Sum.j1 k1 a1 a2 a3 x8_1 l0 (l0.length : Int) x14_1 (!t183) ((rd_T55 l0 x14_1).f0.f0) ((rd_T55 l0 x14_1).f0.f1) ((rd_T55 l0 x14_1).f0.f2) ((rd_T55 l0 x14_1).f0.f3) ((rd_T55 l0 x14_1).f0.f4) ((rd_T55 l0 x14_1).f1)) = some (r1, r2) := H
         have A15 := Aside0.mk A150
         clear A150
         have H' := Aside0.mk H
         clear H
         have hcz16_0 : w9.cell? ⟨gb180, 0, none⟩ = some (.string (⟨#[]⟩ : ByteArray)) := (blk_cell BK180.out 0).trans rfl
         have hcz16_1 : w9.cell? ⟨gb180, 1, none⟩ = some (.string (⟨#[]⟩ : ByteArray)) := (blk_cell BK180.out 1).trans rfl
         have hcz16_2 : w9.cell? ⟨gb180, 2, none⟩ = some (.string (⟨#[]⟩ : ByteArray)) := (blk_cell BK180.out 2).trans rfl
         have hcz16_3 : w9.cell? ⟨gb180, 3, none⟩ = some (.string (⟨#[]⟩ : ByteArray)) := (blk_cell BK180.out 3).trans rfl
         have hcz16_4 : w9.cell? ⟨gb180, 4, none⟩ = some (.int .i64 0) := (blk_cell BK180.out 4).trans rfl
         have hcz16_5 : w9.cell? ⟨gb180, 5, none⟩ = some (.int .i64 0) := (blk_cell BK180.out 5).trans rfl
         have hfz16_0 := blk_frozen BK180.out 0
         have hfz16_1 := blk_frozen BK180.out 1
         have hfz16_2 := blk_frozen BK180.out 2
         have hfz16_3 := blk_frozen BK180.out 3
         have hfz16_4 := blk_frozen BK180.out 4
         have hfz16_5 := blk_frozen BK180.out 5
         go_wp2_with (first | ((with_reducible refine gate_callee (f := 27) rfl ?_); refine goesL_ (some 22) rfl rfl Try.func27 (by kernel_rfl) rfl #[.string a1, .string ((rd_T55 l0 x14_1).f0.f0)] rfl mp_ ?_; (with_reducible refine (fact_any.calls a1 ((rd_T55 l0 x14_1).f0.f0) true _ A11.out).mono ?_); rintro e w' ⟨rfl, ⟨nd, rfl⟩⟩; refine ⟨_, rfl, ?_⟩) | (go_at_call 27; (with_reducible refine (fact_any.calls a2 ((rd_T55 l0 x14_1).f0.f1) true _ A13.out).mono ?_); rintro e w' ⟨rfl, ⟨nd, rfl⟩⟩) | (go_at_call 27; (with_reducible refine (fact_any.calls a3 ((rd_T55 l0 x14_1).f0.f2) t183 _ A15.out).mono ?_); rintro e w' ⟨rfl, ⟨nd, rfl⟩⟩))
         go_meet
         case rel => exact ⟨_, (!t183), rs_, H', ⟨by have := HK1.out; first | omega | exact Nat.le_refl _⟩, ⟨by (with_reducible repeat (first | refine blk_drewN ?_ _ | refine blk_drew ?_ | refine blk_alloc ?_ _)); refine blk_put (cs := #[.string ((rd_T55 l0 x14_1).f0.f0), .string ((rd_T55 l0 x14_1).f0.f1), .string ((rd_T55 l0 x14_1).f0.f2), .string ((rd_T55 l0 x14_1).f0.f3), .int .i64 ((rd_T55 l0 x14_1).f0.f4), .int .i64 0]) ?_ 5 _ rfl; (with_reducible repeat (first | refine blk_drewN ?_ _ | refine blk_drew ?_ | refine blk_alloc ?_ _)); refine blk_put (cs := #[.string ((rd_T55 l0 x14_1).f0.f0), .string ((rd_T55 l0 x14_1).f0.f1), .string ((rd_T55 l0 x14_1).f0.f2), .string ((rd_T55 l0 x14_1).f0.f3), .int .i64 0, .int .i64 0]) ?_ 4 _ rfl; (with_reducible repeat (first | refine blk_drewN ?_ _ | refine blk_drew ?_ | refine blk_alloc ?_ _)); refine blk_put (cs := #[.string ((rd_T55 l0 x14_1).f0.f0), .string ((rd_T55 l0 x14_1).f0.f1), .string ((rd_T55 l0 x14_1).f0.f2), .string (⟨#[]⟩ : ByteArray), .int .i64 0, .int .i64 0]) ?_ 3 _ rfl; (with_reducible repeat (first | refine blk_drewN ?_ _ | refine blk_drew ?_ | refine blk_alloc ?_ _)); refine blk_put (cs := #[.string ((rd_T55 l0 x14_1).f0.f0), .string ((rd_T55 l0 x14_1).f0.f1), .string (⟨#[]⟩ : ByteArray), .string (⟨#[]⟩ : ByteArray), .int .i64 0, .int .i64 0]) ?_ 2 _ rfl; (with_reducible repeat (first | refine blk_drewN ?_ _ | refine blk_drew ?_ | refine blk_alloc ?_ _)); refine blk_put (cs := #[.string ((rd_T55 l0 x14_1).f0.f0), .string (⟨#[]⟩ : ByteArray), .string (⟨#[]⟩ : ByteArray), .string (⟨#[]⟩ : ByteArray), .int .i64 0, .int .i64 0]) ?_ 1 _ rfl; (with_reducible repeat (first | refine blk_drewN ?_ _ | refine blk_drew ?_ | refine blk_alloc ?_ _)); refine blk_put (cs := #[.string (⟨#[]⟩ : ByteArray), .string (⟨#[]⟩ : ByteArray), .string (⟨#[]⟩ : ByteArray), .string (⟨#[]⟩ : ByteArray), .int .i64 0, .int .i64 0]) ?_ 0 _ rfl; (with_reducible repeat (first | refine blk_drewN ?_ _ | refine blk_drew ?_ | refine blk_alloc ?_ _)); exact BK180.out⟩, ⟨by repeat (first | (with_reducible first | exact HB.out | apply below_alloc | apply pw_below_drewN | apply below_drew1 | refine below_set ?_ GE180.out) | exact HB.out)⟩⟩
        ·replace c14 := Bool.eq_false_iff.mpr c14
         subst c14
         have H1 : (fact_Sum.j1 k1 a1 a2 a3 x8_1 l0 (l0.length : Int) x14_1 true ((rd_T55 l0 x14_1).f0.f0) ((rd_T55 l0 x14_1).f0.f1) ((rd_T55 l0 x14_1).f0.f2) ((rd_T55 l0 x14_1).f0.f3) ((rd_T55 l0 x14_1).f0.f4) ((rd_T55 l0 x14_1).f1)) = some (r1, r2) := by rw [if_neg (show ¬ (false = true) by decide)] at H; exact H
         clear H
         have H := H1
         clear H1
         have H' := Aside0.mk H
         clear H
         have hcz17_0 : w9.cell? ⟨gb180, 0, none⟩ = some (.string (⟨#[]⟩ : ByteArray)) := (blk_cell BK180.out 0).trans rfl
         have hcz17_1 : w9.cell? ⟨gb180, 1, none⟩ = some (.string (⟨#[]⟩ : ByteArray)) := (blk_cell BK180.out 1).trans rfl
         have hcz17_2 : w9.cell? ⟨gb180, 2, none⟩ = some (.string (⟨#[]⟩ : ByteArray)) := (blk_cell BK180.out 2).trans rfl
         have hcz17_3 : w9.cell? ⟨gb180, 3, none⟩ = some (.string (⟨#[]⟩ : ByteArray)) := (blk_cell BK180.out 3).trans rfl
         have hcz17_4 : w9.cell? ⟨gb180, 4, none⟩ = some (.int .i64 0) := (blk_cell BK180.out 4).trans rfl
         have hcz17_5 : w9.cell? ⟨gb180, 5, none⟩ = some (.int .i64 0) := (blk_cell BK180.out 5).trans rfl
         have hfz17_0 := blk_frozen BK180.out 0
         have hfz17_1 := blk_frozen BK180.out 1
         have hfz17_2 := blk_frozen BK180.out 2
         have hfz17_3 := blk_frozen BK180.out 3
         have hfz17_4 := blk_frozen BK180.out 4
         have hfz17_5 := blk_frozen BK180.out 5
         go_wp2_with (first | ((with_reducible refine gate_callee (f := 27) rfl ?_); refine goesL_ (some 22) rfl rfl Try.func27 (by kernel_rfl) rfl #[.string a1, .string ((rd_T55 l0 x14_1).f0.f0)] rfl mp_ ?_; (with_reducible refine (fact_any.calls a1 ((rd_T55 l0 x14_1).f0.f0) true _ A11.out).mono ?_); rintro e w' ⟨rfl, ⟨nd, rfl⟩⟩; refine ⟨_, rfl, ?_⟩) | (go_at_call 27; (with_reducible refine (fact_any.calls a2 ((rd_T55 l0 x14_1).f0.f1) false _ A13.out).mono ?_); rintro e w' ⟨rfl, ⟨nd, rfl⟩⟩))
         go_meet
         case rel => exact ⟨_, (true), rs_, H', ⟨by have := HK1.out; first | omega | exact Nat.le_refl _⟩, ⟨by (with_reducible repeat (first | refine blk_drewN ?_ _ | refine blk_drew ?_ | refine blk_alloc ?_ _)); refine blk_put (cs := #[.string ((rd_T55 l0 x14_1).f0.f0), .string ((rd_T55 l0 x14_1).f0.f1), .string ((rd_T55 l0 x14_1).f0.f2), .string ((rd_T55 l0 x14_1).f0.f3), .int .i64 ((rd_T55 l0 x14_1).f0.f4), .int .i64 0]) ?_ 5 _ rfl; (with_reducible repeat (first | refine blk_drewN ?_ _ | refine blk_drew ?_ | refine blk_alloc ?_ _)); refine blk_put (cs := #[.string ((rd_T55 l0 x14_1).f0.f0), .string ((rd_T55 l0 x14_1).f0.f1), .string ((rd_T55 l0 x14_1).f0.f2), .string ((rd_T55 l0 x14_1).f0.f3), .int .i64 0, .int .i64 0]) ?_ 4 _ rfl; (with_reducible repeat (first | refine blk_drewN ?_ _ | refine blk_drew ?_ | refine blk_alloc ?_ _)); refine blk_put (cs := #[.string ((rd_T55 l0 x14_1).f0.f0), .string ((rd_T55 l0 x14_1).f0.f1), .string ((rd_T55 l0 x14_1).f0.f2), .string (⟨#[]⟩ : ByteArray), .int .i64 0, .int .i64 0]) ?_ 3 _ rfl; (with_reducible repeat (first | refine blk_drewN ?_ _ | refine blk_drew ?_ | refine blk_alloc ?_ _)); refine blk_put (cs := #[.string ((rd_T55 l0 x14_1).f0.f0), .string ((rd_T55 l0 x14_1).f0.f1), .string (⟨#[]⟩ : ByteArray), .string (⟨#[]⟩ : ByteArray), .int .i64 0, .int .i64 0]) ?_ 2 _ rfl; (with_reducible repeat (first | refine blk_drewN ?_ _ | refine blk_drew ?_ | refine blk_alloc ?_ _)); refine blk_put (cs := #[.string ((rd_T55 l0 x14_1).f0.f0), .string (⟨#[]⟩ : ByteArray), .string (⟨#[]⟩ : ByteArray), .string (⟨#[]⟩ : ByteArray), .int .i64 0, .int .i64 0]) ?_ 1 _ rfl; (with_reducible repeat (first | refine blk_drewN ?_ _ | refine blk_drew ?_ | refine blk_alloc ?_ _)); refine blk_put (cs := #[.string (⟨#[]⟩ : ByteArray), .string (⟨#[]⟩ : ByteArray), .string (⟨#[]⟩ : ByteArray), .string (⟨#[]⟩ : ByteArray), .int .i64 0, .int .i64 0]) ?_ 0 _ rfl; (with_reducible repeat (first | refine blk_drewN ?_ _ | refine blk_drew ?_ | refine blk_alloc ?_ _)); exact BK180.out⟩, ⟨by repeat (first | (with_reducible first | exact HB.out | apply below_alloc | apply pw_below_drewN | apply below_drew1 | refine below_set ?_ GE180.out) | exact HB.out)⟩⟩
       ·replace c12 := Bool.eq_false_iff.mpr c12
        subst c12
        have H1 : (fact_Sum.j1 k1 a1 a2 a3 x8_1 l0 (l0.length : Int) x14_1 true ((rd_T55 l0 x14_1).f0.f0) ((rd_T55 l0 x14_1).f0.f1) ((rd_T55 l0 x14_1).f0.f2) ((rd_T55 l0 x14_1).f0.f3) ((rd_T55 l0 x14_1).f0.f4) ((rd_T55 l0 x14_1).f1)) = some (r1, r2) := by rw [if_neg (show ¬ (false = true) by decide)] at H; exact H
        clear H
        have H := H1
        clear H1
        have H' := Aside0.mk H
        clear H
        have hcz18_0 : w9.cell? ⟨gb180, 0, none⟩ = some (.string (⟨#[]⟩ : ByteArray)) := (blk_cell BK180.out 0).trans rfl
        have hcz18_1 : w9.cell? ⟨gb180, 1, none⟩ = some (.string (⟨#[]⟩ : ByteArray)) := (blk_cell BK180.out 1).trans rfl
        have hcz18_2 : w9.cell? ⟨gb180, 2, none⟩ = some (.string (⟨#[]⟩ : ByteArray)) := (blk_cell BK180.out 2).trans rfl
        have hcz18_3 : w9.cell? ⟨gb180, 3, none⟩ = some (.string (⟨#[]⟩ : ByteArray)) := (blk_cell BK180.out 3).trans rfl
        have hcz18_4 : w9.cell? ⟨gb180, 4, none⟩ = some (.int .i64 0) := (blk_cell BK180.out 4).trans rfl
        have hcz18_5 : w9.cell? ⟨gb180, 5, none⟩ = some (.int .i64 0) := (blk_cell BK180.out 5).trans rfl
        have hfz18_0 := blk_frozen BK180.out 0
        have hfz18_1 := blk_frozen BK180.out 1
        have hfz18_2 := blk_frozen BK180.out 2
        have hfz18_3 := blk_frozen BK180.out 3
        have hfz18_4 := blk_frozen BK180.out 4
        have hfz18_5 := blk_frozen BK180.out 5
        go_wp2_with (first | ((with_reducible refine gate_callee (f := 27) rfl ?_); refine goesL_ (some 22) rfl rfl Try.func27 (by kernel_rfl) rfl #[.string a1, .string ((rd_T55 l0 x14_1).f0.f0)] rfl mp_ ?_; (with_reducible refine (fact_any.calls a1 ((rd_T55 l0 x14_1).f0.f0) false _ A11.out).mono ?_); rintro e w' ⟨rfl, ⟨nd, rfl⟩⟩; refine ⟨_, rfl, ?_⟩))
        go_meet
        case rel => exact ⟨_, (true), rs_, H', ⟨by have := HK1.out; first | omega | exact Nat.le_refl _⟩, ⟨by (with_reducible repeat (first | refine blk_drewN ?_ _ | refine blk_drew ?_ | refine blk_alloc ?_ _)); refine blk_put (cs := #[.string ((rd_T55 l0 x14_1).f0.f0), .string ((rd_T55 l0 x14_1).f0.f1), .string ((rd_T55 l0 x14_1).f0.f2), .string ((rd_T55 l0 x14_1).f0.f3), .int .i64 ((rd_T55 l0 x14_1).f0.f4), .int .i64 0]) ?_ 5 _ rfl; (with_reducible repeat (first | refine blk_drewN ?_ _ | refine blk_drew ?_ | refine blk_alloc ?_ _)); refine blk_put (cs := #[.string ((rd_T55 l0 x14_1).f0.f0), .string ((rd_T55 l0 x14_1).f0.f1), .string ((rd_T55 l0 x14_1).f0.f2), .string ((rd_T55 l0 x14_1).f0.f3), .int .i64 0, .int .i64 0]) ?_ 4 _ rfl; (with_reducible repeat (first | refine blk_drewN ?_ _ | refine blk_drew ?_ | refine blk_alloc ?_ _)); refine blk_put (cs := #[.string ((rd_T55 l0 x14_1).f0.f0), .string ((rd_T55 l0 x14_1).f0.f1), .string ((rd_T55 l0 x14_1).f0.f2), .string (⟨#[]⟩ : ByteArray), .int .i64 0, .int .i64 0]) ?_ 3 _ rfl; (with_reducible repeat (first | refine blk_drewN ?_ _ | refine blk_drew ?_ | refine blk_alloc ?_ _)); refine blk_put (cs := #[.string ((rd_T55 l0 x14_1).f0.f0), .string ((rd_T55 l0 x14_1).f0.f1), .string (⟨#[]⟩ : ByteArray), .string (⟨#[]⟩ : ByteArray), .int .i64 0, .int .i64 0]) ?_ 2 _ rfl; (with_reducible repeat (first | refine blk_drewN ?_ _ | refine blk_drew ?_ | refine blk_alloc ?_ _)); refine blk_put (cs := #[.string ((rd_T55 l0 x14_1).f0.f0), .string (⟨#[]⟩ : ByteArray), .string (⟨#[]⟩ : ByteArray), .string (⟨#[]⟩ : ByteArray), .int .i64 0, .int .i64 0]) ?_ 1 _ rfl; (with_reducible repeat (first | refine blk_drewN ?_ _ | refine blk_drew ?_ | refine blk_alloc ?_ _)); refine blk_put (cs := #[.string (⟨#[]⟩ : ByteArray), .string (⟨#[]⟩ : ByteArray), .string (⟨#[]⟩ : ByteArray), .string (⟨#[]⟩ : ByteArray), .int .i64 0, .int .i64 0]) ?_ 0 _ rfl; (with_reducible repeat (first | refine blk_drewN ?_ _ | refine blk_drew ?_ | refine blk_alloc ?_ _)); exact BK180.out⟩, ⟨by repeat (first | (with_reducible first | exact HB.out | apply below_alloc | apply pw_below_drewN | apply below_drew1 | refine below_set ?_ GE180.out) | exact HB.out)⟩⟩
      case rest =>
       clear HC8
       try clear c1
       try clear p1
       try clear q1
       try clear hx1
       try clear c2
       try clear p2
       try clear c5
       try clear c5b0
       try clear c6
       try clear c6b0
       try clear c7
       try clear c7b0
       try clear c12
       try clear c14
       try clear p17
       try clear q17
       try clear hx17
       try clear hcz10_0
       try clear hcz10_1
       try clear hcz10_2
       try clear hcz10_3
       try clear hcz10_4
       try clear hcz10_5
       try clear hcz16_0
       try clear hcz16_1
       try clear hcz16_2
       try clear hcz16_3
       try clear hcz16_4
       try clear hcz16_5
       try clear hcz17_0
       try clear hcz17_1
       try clear hcz17_2
       try clear hcz17_3
       try clear hcz17_4
       try clear hcz17_5
       try clear hcz18_0
       try clear hcz18_1
       try clear hcz18_2
       try clear hcz18_3
       try clear hcz18_4
       try clear hcz18_5
       try clear hfz10_0
       try clear hfz10_1
       try clear hfz10_2
       try clear hfz10_3
       try clear hfz10_4
       try clear hfz10_5
       try clear hfz16_0
       try clear hfz16_1
       try clear hfz16_2
       try clear hfz16_3
       try clear hfz16_4
       try clear hfz16_5
       try clear hfz17_0
       try clear hfz17_1
       try clear hfz17_2
       try clear hfz17_3
       try clear hfz17_4
       try clear hfz17_5
       try clear hfz18_0
       try clear hfz18_1
       try clear hfz18_2
       try clear hfz18_3
       try clear hfz18_4
       try clear hfz18_5
       try clear hx179_0
       try clear hx179_1
       try clear hx179_2
       try clear hx179_3
       try clear hx179_4
       try clear hx179_5
       try clear p179
       try clear p2
       try clear q179
       obtain ⟨kq, x39_7, rfl, HA, HJ7, BK180, HB⟩ := hcut
       cases kq with
       | zero => exact absurd HA.out (by simp [fact_Sum.j1])
       | succ kj7 =>
        have H := HA.out
        clear HA
        simp only [fact_Sum.j1] at H
        by_cases c19 : x39_7 = true
        ·subst c19
         have H1 : (fact_Sum.l0 kj7 a1 a2 a3 x8_1 l0 (l0.length : Int) (wrap64 (x14_1 + 1))) = some (r1, r2) := by rw [if_pos rfl] at H; exact H
         clear H
         have H := H1
         clear H1
         have H' := Aside0.mk H
         clear H
         go_wp2
         go_roundg kj7
         case measure => have := HK1.out; have := HJ7.out; omega
         case rel => exact ⟨(x8_1), (wrap64 (x14_1 + 1)), rs_, rs_, H', ⟨by have := HK1.out; have := HJ7.out; omega⟩, ⟨by repeat (first | (with_reducible first | exact HB.out | apply below_alloc | apply pw_below_drewN | apply below_drew1 | refine below_set ?_ GE180.out) | exact HB.out)⟩⟩
        ·replace c19 := Bool.eq_false_iff.mpr c19
         subst c19
         have H1 : ((cent_Add.f x8_1 ((rd_T55 l0 x14_1).f1)).bind fun bt184 => (if bt184.2 = 0 then (fact_Sum.l0 kj7 a1 a2 a3 bt184.1 l0 (l0.length : Int) (wrap64 (x14_1 + 1))) else (some (0, bt184.2)))) = some (r1, r2) := by rw [if_neg (show ¬ (false = true) by decide)] at H; exact H
         clear H
         have H := H1
         clear H1
         replace H := Option.bind_eq_some_iff.mp H
         obtain ⟨⟨t184, t185⟩, A200, H⟩ := H
         replace H : (if t185 = 0 then (fact_Sum.l0 kj7 a1 a2 a3 t184 l0 (l0.length : Int) (wrap64 (x14_1 + 1))) else (some (0, t185))) = some (r1, r2) := H
         have A20 := Aside0.mk A200
         clear A200
         by_cases c21 : t185 = 0
         ·rw [if_pos c21] at H
          have c21b0 : (t185 == 0) = true := beq_iff_eq.mpr c21
          have c21b1 : (t185 != 0) = false := bne_eq_false_iff_eq.mpr c21
          clear c21
          have H' := Aside0.mk H
          clear H
          have hcz22_0 : wc.cell? ⟨gb180, 0, none⟩ = some (.string ((rd_T55 l0 x14_1).f0.f0)) := (blk_cell BK180.out 0).trans rfl
          have hcz22_1 : wc.cell? ⟨gb180, 1, none⟩ = some (.string ((rd_T55 l0 x14_1).f0.f1)) := (blk_cell BK180.out 1).trans rfl
          have hcz22_2 : wc.cell? ⟨gb180, 2, none⟩ = some (.string ((rd_T55 l0 x14_1).f0.f2)) := (blk_cell BK180.out 2).trans rfl
          have hcz22_3 : wc.cell? ⟨gb180, 3, none⟩ = some (.string ((rd_T55 l0 x14_1).f0.f3)) := (blk_cell BK180.out 3).trans rfl
          have hcz22_4 : wc.cell? ⟨gb180, 4, none⟩ = some (.int .i64 ((rd_T55 l0 x14_1).f0.f4)) := (blk_cell BK180.out 4).trans rfl
          have hcz22_5 : wc.cell? ⟨gb180, 5, none⟩ = some (.int .i64 ((rd_T55 l0 x14_1).f1)) := (blk_cell BK180.out 5).trans rfl
          have hfz22_0 := blk_frozen BK180.out 0
          have hfz22_1 := blk_frozen BK180.out 1
          have hfz22_2 := blk_frozen BK180.out 2
          have hfz22_3 := blk_frozen BK180.out 3
          have hfz22_4 := blk_frozen BK180.out 4
          have hfz22_5 := blk_frozen BK180.out 5
          go_wp2_with (first | ((with_reducible refine gate_callee (f := 28) rfl ?_); refine goesL_ (some 44) rfl rfl Try.func28 (by kernel_rfl) rfl #[.int .i64 x8_1, .int .i64 ((rd_T55 l0 x14_1).f1)] rfl mp_ ?_; (with_reducible refine (cent_Add.calls x8_1 ((rd_T55 l0 x14_1).f1) t184 t185 _ A20.out).mono ?_); rintro e w' ⟨rfl, ⟨nd, rfl⟩⟩; refine ⟨_, rfl, ?_⟩))
          go_roundg kj7
          case measure => have := HK1.out; have := HJ7.out; omega
          case rel => exact ⟨(t184), (wrap64 (x14_1 + 1)), rs_, rs_, H', ⟨by have := HK1.out; have := HJ7.out; omega⟩, ⟨by repeat (first | (with_reducible first | exact HB.out | apply below_alloc | apply pw_below_drewN | apply below_drew1 | refine below_set ?_ GE180.out) | exact HB.out)⟩⟩
         ·rw [if_neg c21] at H
          have c21b0 : (t185 == 0) = false := beq_eq_false_iff_ne.mpr c21
          have c21b1 : (t185 != 0) = true := bne_iff_ne.mpr c21
          simp only [Option.some.injEq, Prod.mk.injEq] at H
          obtain ⟨rfl, rfl⟩ := H
          have hcz23_0 : wc.cell? ⟨gb180, 0, none⟩ = some (.string ((rd_T55 l0 x14_1).f0.f0)) := (blk_cell BK180.out 0).trans rfl
          have hcz23_1 : wc.cell? ⟨gb180, 1, none⟩ = some (.string ((rd_T55 l0 x14_1).f0.f1)) := (blk_cell BK180.out 1).trans rfl
          have hcz23_2 : wc.cell? ⟨gb180, 2, none⟩ = some (.string ((rd_T55 l0 x14_1).f0.f2)) := (blk_cell BK180.out 2).trans rfl
          have hcz23_3 : wc.cell? ⟨gb180, 3, none⟩ = some (.string ((rd_T55 l0 x14_1).f0.f3)) := (blk_cell BK180.out 3).trans rfl
          have hcz23_4 : wc.cell? ⟨gb180, 4, none⟩ = some (.int .i64 ((rd_T55 l0 x14_1).f0.f4)) := (blk_cell BK180.out 4).trans rfl
          have hcz23_5 : wc.cell? ⟨gb180, 5, none⟩ = some (.int .i64 ((rd_T55 l0 x14_1).f1)) := (blk_cell BK180.out 5).trans rfl
          have hfz23_0 := blk_frozen BK180.out 0
          have hfz23_1 := blk_frozen BK180.out 1
          have hfz23_2 := blk_frozen BK180.out 2
          have hfz23_3 := blk_frozen BK180.out 3
          have hfz23_4 := blk_frozen BK180.out 4
          have hfz23_5 := blk_frozen BK180.out 5
          go_wp2_with (first | ((with_reducible refine gate_callee (f := 28) rfl ?_); refine goesL_ (some 44) rfl rfl Try.func28 (by kernel_rfl) rfl #[.int .i64 x8_1, .int .i64 ((rd_T55 l0 x14_1).f1)] rfl mp_ ?_; (with_reducible refine (cent_Add.calls x8_1 ((rd_T55 l0 x14_1).f1) t184 t185 _ A20.out).mono ?_); rintro e w' ⟨rfl, ⟨nd, rfl⟩⟩; refine ⟨_, rfl, ?_⟩))
          go_ret2
          exact ⟨re_, by repeat (first | (with_reducible first | exact HB.out | apply below_alloc | apply pw_below_drewN | apply below_drew1 | refine below_set ?_ GE180.out) | exact HB.out)⟩
     ·rw [if_neg c7] at H
      exact absurd H (by simp)
    ·rw [if_neg c6] at H
     exact absurd H (by simp)
   ·rw [if_neg c5] at H
    have c5b0 : decide (x14_1 < (l0.length : Int)) = false := decide_eq_false c5
    clear c5
    simp only [Option.some.injEq, Prod.mk.injEq] at H
    obtain ⟨rfl, rfl⟩ := H
    go_wp2
    go_ret2
    exact ⟨re_, bw⟩
/-! ### fact_Get_1: function 31 -/
def fact_Get_1.f (k : Nat) (a0_0 : ByteArray) (a0_1 : ByteArray) (a0_2 : ByteArray) (a0_3 : ByteArray) (a0_4 : Int) (a0_5 : Int) (a1_0 : ByteArray) (a1_1 : ByteArray) (a1_2 : ByteArray) (a1_3 : ByteArray) (a1_4 : Int) : Option (Int) := (fact_Cmp.f k a0_0 a0_1 a0_2 a0_3 a0_4 a1_0 a1_1 a1_2 a1_3 a1_4).bind fun t120 => (some t120)
theorem fact_Get_1.mono : ∀ a0 a1 a2 a3 a4 a5 a6 a7 a8 a9 a10 k, LeO (fact_Get_1.f k a0 a1 a2 a3 a4 a5 a6 a7 a8 a9 a10) (fact_Get_1.f (k + 1) a0 a1 a2 a3 a4 a5 a6 a7 a8 a9 a10) := by
 intro a0 a1 a2 a3 a4 a5 a6 a7 a8 a9 a10 k
 unfold fact_Get_1.f
 repeat' first
   | (with_reducible exact fact_Cmp.mono _ _ _ _ _ _ _ _ _ _ _)
   | (with_reducible exact LeO.refl _)
   | (with_reducible exact LeO.none _)
   | (with_reducible refine LeO.ite ?_ ?_)
   | (with_reducible refine LeO.bind ?_ (fun _ => ?_))
   | exact fact_Cmp.mono _ _ _ _ _ _ _ _ _ _ _
   | exact LeO.none _
   | refine LeO.ite ?_ ?_
   | refine LeO.bind ?_ (fun _ => ?_)
set_option maxHeartbeats 8000000 in
set_option maxRecDepth 100000 in
theorem fact_Get_1.calls (k : Nat) (a0_0 : ByteArray) (a0_1 : ByteArray) (a0_2 : ByteArray) (a0_3 : ByteArray) (a0_4 : Int) (a0_5 : Int) (a1_0 : ByteArray) (a1_1 : ByteArray) (a1_2 : ByteArray) (a1_3 : ByteArray) (a1_4 : Int) (r : Int) (w : World) (h : fact_Get_1.f k a0_0 a0_1 a0_2 a0_3 a0_4 a0_5 a1_0 a1_1 a1_2 a1_3 a1_4 = some r) :
  Calls Try.prog 31 #[.agg #[.string a0_0, .string a0_1, .string a0_2, .string a0_3, .int .i64 a0_4, .int .i64 a0_5], .agg #[.string a1_0, .string a1_1, .string a1_2, .string a1_3, .int .i64 a1_4]] w fun e w' => e = .returned (.int .i64 r) ∧ Below w.heap.size w w' := by
 have hu55 := Try.underlying55
 have hu44 := Try.underlying44
 have HB := Aside0.mk (Below.refl w.heap.size w)
 have H : ((fact_Cmp.f k a0_0 a0_1 a0_2 a0_3 a0_4 a1_0 a1_1 a1_2 a1_3 a1_4).bind fun t120 => (some t120)) = some r := h
 clear h
 replace H := Option.bind_eq_some_iff.mp H
 obtain ⟨t120, A30, H⟩ := H
 replace H : (some t120) = some r := H
 have A3 := Aside0.mk A30
 clear A30
 obtain rfl := Option.some.inj H
 go_enter Try.func31, Try.ntmps31
 go_wp2_with (first | ((with_reducible refine gate_dst (N := 2) rfl ?_); refine box_event ?hg (N := 2) ?hd (cs := #[.string a0_0, .string a0_1, .string a0_2, .string a0_3, .int .i64 a0_4, .int .i64 a0_5]) (t := 55) ?hr ?_; (case hd => rfl); (case hg => rfl); (case hr => first | (go_simp; done) | (go_simp; rfl)); intro gb118 hg w4 hbox hb; have n0_ := Aside0.mk (below_step bw hb); have n1_ := Aside0.mk (hbox); have n2_ := Aside0.mk ((by rw [hg]; exact (below_size bw) : w.heap.size ≤ gb118)); have n3_ := Aside0.mk ((by rw [hg]; exact (below_size bw) : w.heap.size ≤ gb118)); clear HB; have HB := n0_; have BK118 := n1_; have GW118 := n2_; have GE118 := n3_; clear n0_ n1_ n2_ n3_; clear hb hbox hg) | ((with_reducible refine gate_dst (N := 3) rfl ?_); refine box_event ?hg (N := 3) ?hd (cs := #[.string a1_0, .string a1_1, .string a1_2, .string a1_3, .int .i64 a1_4]) (t := 44) ?hr ?_; (case hd => rfl); (case hg => rfl); (case hr => first | (go_simp; done) | (go_simp; rfl)); intro gb119 hg w5 hbox hb; have n0_ := Aside0.mk (blk_below (g := gb118) (o := .cells #[.string a0_0, .string a0_1, .string a0_2, .string a0_3, .int .i64 a0_4, .int .i64 a0_5] 55 (0, 0)) (by (with_reducible repeat (first | refine blk_drewN ?_ _ | refine blk_drew ?_ | refine blk_alloc ?_ _)); exact BK118.out) hb); have n1_ := Aside0.mk (below_step (by repeat (first | (with_reducible first | exact HB.out | apply below_alloc | apply pw_below_drewN | apply below_drew1 | refine below_set ?_ GE118.out) | exact HB.out)) hb); have n2_ := Aside0.mk (hbox); have n3_ := Aside0.mk ((by rw [hg]; exact (below_size (by repeat (first | (with_reducible first | exact HB.out | apply below_alloc | apply pw_below_drewN | apply below_drew1 | refine below_set ?_ GE118.out) | exact HB.out))) : w.heap.size ≤ gb119)); have n4_ := Aside0.mk ((by rw [hg]; exact (below_size (by repeat (first | (with_reducible first | exact HB.out | apply below_alloc | apply pw_below_drewN | apply below_drew1 | refine below_set ?_ GE118.out) | exact HB.out))) : w.heap.size ≤ gb119)); have n5_ := Aside0.mk ((by rw [hg]; exact Nat.ne_of_lt (blk_lt (g := gb118) (o := .cells #[.string a0_0, .string a0_1, .string a0_2, .string a0_3, .int .i64 a0_4, .int .i64 a0_5] 55 (0, 0)) (by (with_reducible repeat (first | refine blk_drewN ?_ _ | refine blk_drew ?_ | refine blk_alloc ?_ _)); exact BK118.out)) : gb118 ≠ gb119)); have n6_ := Aside0.mk ((by rw [hg]; exact Nat.ne_of_gt (blk_lt (g := gb118) (o := .cells #[.string a0_0, .string a0_1, .string a0_2, .string a0_3, .int .i64 a0_4, .int .i64 a0_5] 55 (0, 0)) (by (with_reducible repeat (first | refine blk_drewN ?_ _ | refine blk_drew ?_ | refine blk_alloc ?_ _)); exact BK118.out)) : gb119 ≠ gb118)); clear BK118; clear HB; have BK118 := n0_; have HB := n1_; have BK119 := n2_; have GW119 := n3_; have GE119 := n4_; have NB118_119 := n5_; have NB119_118 := n6_; clear n0_ n1_ n2_ n3_ n4_ n5_ n6_; clear hb hbox hg; have hnb6 := NB118_119.out; have hnc6 := NB119_118.out; have hcz7_0 : w5.cell? ⟨gb118, 0, none⟩ = some (.string a0_0) := (blk_cell BK118.out 0).trans rfl; have hcz7_1 : w5.cell? ⟨gb118, 1, none⟩ = some (.string a0_1) := (blk_cell BK118.out 1).trans rfl; have hcz7_2 : w5.cell? ⟨gb118, 2, none⟩ = some (.string a0_2) := (blk_cell BK118.out 2).trans rfl; have hcz7_3 : w5.cell? ⟨gb118, 3, none⟩ = some (.string a0_3) := (blk_cell BK118.out 3).trans rfl; have hcz7_4 : w5.cell? ⟨gb118, 4, none⟩ = some (.int .i64 a0_4) := (blk_cell BK118.out 4).trans rfl; have hcz7_5 : w5.cell? ⟨gb118, 5, none⟩ = some (.int .i64 a0_5) := (blk_cell BK118.out 5).trans rfl; have hfz7_0 := blk_frozen BK118.out 0; have hfz7_1 := blk_frozen BK118.out 1; have hfz7_2 := blk_frozen BK118.out 2; have hfz7_3 := blk_frozen BK118.out 3; have hfz7_4 := blk_frozen BK118.out 4; have hfz7_5 := blk_frozen BK118.out 5; have hcz8_0 : w5.cell? ⟨gb119, 0, none⟩ = some (.string a1_0) := (blk_cell BK119.out 0).trans rfl; have hcz8_1 : w5.cell? ⟨gb119, 1, none⟩ = some (.string a1_1) := (blk_cell BK119.out 1).trans rfl; have hcz8_2 : w5.cell? ⟨gb119, 2, none⟩ = some (.string a1_2) := (blk_cell BK119.out 2).trans rfl; have hcz8_3 : w5.cell? ⟨gb119, 3, none⟩ = some (.string a1_3) := (blk_cell BK119.out 3).trans rfl; have hcz8_4 : w5.cell? ⟨gb119, 4, none⟩ = some (.int .i64 a1_4) := (blk_cell BK119.out 4).trans rfl; have hfz8_0 := blk_frozen BK119.out 0; have hfz8_1 := blk_frozen BK119.out 1; have hfz8_2 := blk_frozen BK119.out 2; have hfz8_3 := blk_frozen BK119.out 3; have hfz8_4 := blk_frozen BK119.out 4) | ((with_reducible refine gate_callee (f := 23) rfl ?_); refine goesL_ (some 8) rfl rfl Try.func23 (by kernel_rfl) rfl #[.agg #[.string a0_0, .string a0_1, .string a0_2, .string a0_3, .int .i64 a0_4], .agg #[.string a1_0, .string a1_1, .string a1_2, .string a1_3, .int .i64 a1_4]] rfl mp_ ?_; (with_reducible refine (fact_Cmp.calls k a0_0 a0_1 a0_2 a0_3 a0_4 a1_0 a1_1 a1_2 a1_3 a1_4 t120 _ A3.out).mono ?_); rintro e w9 ⟨rfl, hb⟩; refine ⟨_, rfl, ?_⟩; have n0_ := Aside0.mk (blk_below (g := gb118) (o := .cells #[.string a0_0, .string a0_1, .string a0_2, .string a0_3, .int .i64 a0_4, .int .i64 a0_5] 55 (0, 0)) (by (with_reducible repeat (first | refine blk_drewN ?_ _ | refine blk_drew ?_ | refine blk_alloc ?_ _)); exact BK118.out) hb); have n1_ := Aside0.mk (blk_below (g := gb119) (o := .cells #[.string a1_0, .string a1_1, .string a1_2, .string a1_3, .int .i64 a1_4] 44 (0, 0)) (by (with_reducible repeat (first | refine blk_drewN ?_ _ | refine blk_drew ?_ | refine blk_alloc ?_ _)); exact BK119.out) hb); have n2_ := Aside0.mk (below_step (by repeat (first | (with_reducible first | exact HB.out | apply below_alloc | apply pw_below_drewN | apply below_drew1 | refine below_set ?_ GE118.out | refine below_set ?_ GE119.out) | exact HB.out)) hb); clear BK118; clear BK119; clear HB; have BK118 := n0_; have BK119 := n1_; have HB := n2_; clear n0_ n1_ n2_; (try clear hb); (try clear hb2); (try clear hk); (try clear hi)))
 go_ret
 exact ⟨re_, by repeat (first | (with_reducible first | exact HB.out | apply below_alloc | apply pw_below_drewN | apply below_drew1 | refine below_set ?_ GE118.out | refine below_set ?_ GE119.out) | exact HB.out)⟩

end Go.Proofs.Ytdckeflggcefbaa.Y
