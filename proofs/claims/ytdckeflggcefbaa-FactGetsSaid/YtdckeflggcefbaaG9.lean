/- Plain Lean functions with the answers of the program's functions, and proofs that the machine's calls come to them; lines written by a program for this claim. FactGets, walked: where facts are too many, too long or too great to be asked, it says true at once. What a key of five fields reads as, as a map's key; and that whatever reads so is such a key. What 'm[k] += v' does where its parts stand apart: the entry is laid, the element is looked up before or behind that, the sum is stored. Its conditions: the block is a map that reads, the key reads as a key. How facts stand: the plain comparison of keys, that it orders them, and that fact.Cmp tells it. What a stable sort is, and what exchanges of parts of a list leave: insertion, exchange of two stretches, rotation. Plain Lean; the numbers of a list's places are small. What a cube of facts is: its keys rise, no amount is 0, each key has the sum of its facts; there is one alone. Plain Lean. Insertion sort of a stretch: it is sorted, facts of one key stand as they stood. Plain Lean. What the law's own small functions answer. Plain Lean. No conditions. -/
import Derived.Maps.RangeWalk
import Derived.Maps.OwnOps
import Derived.Maps.Views
import Derived.WideKeyEntry
import Derived.ChangeKeysEq
import Derived.DeepKeys4
import Derived.Test.YtdckeflggcefbaaG1
import Derived.Test.YtdckeflggcefbaaG2
import Derived.Test.YtdckeflggcefbaaG4
import Derived.Test.YtdckeflggcefbaaG8
namespace Go.Proofs.Ytdckeflggcefbaa.Y
open Go.RowKit Go.Proofs.YtdckeflggcefbaaW.PrintWords Go.Proofs.YtdckeflggcefbaaW.PrintLast Go.Proofs.YtdckeflggcefbaaW.PrintMore
attribute [local go_sem] max2_int min2_int max_two min_two max_three min_three max_four min_four
set_option linter.unusedVariables false
set_option linter.unusedSimpArgs false

/-! ### fact_Right: function 22 -/
def fact_Right.l0 : Nat → List (S55) → List (S55) → Int → Int → Option (Bool)
 | 0, _, _, _, _ => none
 | k + 1, x0, x5, x6, x7 => if x7 < x6 then (if 0 ≤ x7 then (if x7 < (x5.length : Int) then (if ((rd_T55 x5 x7).f1) = 0 then (some false) else (if x7 > 0 then (if 0 ≤ (wrap64 (x7 - 1)) then (if (wrap64 (x7 - 1)) < (x0.length : Int) then ((fact_Cmp.f k ((rd_T55 x0 (wrap64 (x7 - 1))).f0.f0) ((rd_T55 x0 (wrap64 (x7 - 1))).f0.f1) ((rd_T55 x0 (wrap64 (x7 - 1))).f0.f2) ((rd_T55 x0 (wrap64 (x7 - 1))).f0.f3) ((rd_T55 x0 (wrap64 (x7 - 1))).f0.f4) ((rd_T55 x5 x7).f0.f0) ((rd_T55 x5 x7).f0.f1) ((rd_T55 x5 x7).f0.f2) ((rd_T55 x5 x7).f0.f3) ((rd_T55 x5 x7).f0.f4)).bind fun t207 => (if t207 ≥ 0 then (some false) else (fact_Right.l0 k x0 x5 x6 (wrap64 (x7 + 1))))) else (none)) else (none)) else (fact_Right.l0 k x0 x5 x6 (wrap64 (x7 + 1))))) else (none)) else (none)) else (some (decide ((x0.length : Int) ≤ 2000)))
def fact_Right.f (k : Nat) (l0 : List (S55)) : Option (Bool) := fact_Right.l0 k l0 l0 (l0.length : Int) 0
theorem fact_Right.mono_l : ∀ k, (∀ y0 y1 y2 y3, LeO (fact_Right.l0 k y0 y1 y2 y3) (fact_Right.l0 (k + 1) y0 y1 y2 y3))
 | 0 => fun _ _ _ _ r h => by simp [fact_Right.l0] at h
 | k + 1 => by
  have ih0 := fact_Right.mono_l k
  ·intro y0 y1 y2 y3
   unfold fact_Right.l0
   with_reducible repeat' first | apply ih0 | apply fact_Cmp.mono | refine LeO.refl _ | refine LeO.none _ | refine LeO.ite ?_ ?_ | refine LeO.bind ?_ (fun _ => ?_)
theorem fact_Right.mono : ∀ a0 k, LeO (fact_Right.f k a0) (fact_Right.f (k + 1) a0) := by
 intro a0 k
 have ih0 := fact_Right.mono_l k
 unfold fact_Right.f
 with_reducible repeat' first | apply ih0 | apply fact_Cmp.mono | refine LeO.refl _ | refine LeO.none _ | refine LeO.ite ?_ ?_ | refine LeO.bind ?_ (fun _ => ?_)
def fact_Right.T4 : Bool × List (List Nat × List Nat) := (true, [([], []), ([0], [0]), ([1], [1]), ([2], [2]), ([3], [3]), ([4, 3], [3, 4]), ([5, 3, 3], [3, 5]), ([6], [6]), ([6], [6]), ([8, 6], [6, 8]), ([7, 9, 6], [6, 7, 9]), ([10, 6], [6, 10]), ([11, 6], [6, 11]), ([6], [6]), ([13, 6], [6, 13]), ([12, 14, 6, 6], [6, 12, 14]), ([15, 6], [6, 15]), ([6, 16, 3], [3, 6, 16]), ([3, 17], [3, 17])])
def fact_Right.B4 : List Nat := [0, 1, 3, 7, 15, 31, 63, 127, 127, 383, 1023, 2047, 4095, 127, 8319, 32767, 65535, 131071, 262143]
theorem fact_Right.tab4 : rtab .any (opsOf Try.f22 4) = fact_Right.T4 := by kernel_rfl
theorem fact_Right.bits4 : waitsOk fact_Right.T4.2 fact_Right.B4 = true := by kernel_rfl
set_option maxHeartbeats 8000000 in
set_option maxRecDepth 100000 in
theorem fact_Right.calls (k : Nat) (A0 : Option Addr) (c0 : Nat) (l0 : List (S55)) (r : Bool) (w : World) (hr0 : Kd.C k55 w A0 l0.length l0) (hc0 : l0.length ≤ c0) (h : fact_Right.f k l0 = some r) :
  Calls Try.prog 22 #[.slice A0 l0.length c0] w fun e w' => e = .returned (.bool r) ∧ Below w.heap.size w w' := by
 have hu55 := Try.underlying55; have hu44 := Try.underlying44; have HR0 := Aside0.mk hr0; have HC0 := Aside0.mk hc0; clear hr0 hc0
 have HB := Aside0.mk (Below.refl w.heap.size w)
 have H : (fact_Right.l0 k l0 l0 (l0.length : Int) 0) = some r := h
 clear h
 have H' := Aside0.mk H
 clear H
 go_enter Try.func22, Try.ntmps22
 go_wp2
 go_loopg [7] k (fun kq v7 w' => ∃ (x7_1 : Int), v7 = .int .i64 x7_1 ∧ Aside0 (fact_Right.l0 kq l0 l0 (l0.length : Int) x7_1 = some r) ∧ Aside0 (kq ≤ k) ∧ Aside0 (Below w.heap.size w w'))
 case atStart => exact ⟨(0), rs_, H', ⟨Nat.le_refl _⟩, ⟨bw⟩⟩
 case round =>
  clear H'
  obtain ⟨x7_1, rfl, HA, HK1, HB⟩ := hrel
  cases gk with
  | zero => exact absurd HA.out (by simp [fact_Right.l0])
  | succ k1 =>
   have H := HA.out; clear HA
   simp only [fact_Right.l0] at H
   by_cases c2 : x7_1 < (l0.length : Int)
   ·rw [if_pos c2] at H
    have c2b0 : decide (x7_1 < (l0.length : Int)) = true := decide_eq_true c2
    clear c2
    by_cases c3 : 0 ≤ x7_1
    ·rw [if_pos c3] at H
     have c3b0 : decide (0 ≤ x7_1) = true := decide_eq_true c3
     clear c3
     by_cases c4 : x7_1 < (l0.length : Int)
     ·rw [if_pos c4] at H
      have c4b0 : decide (x7_1 < (l0.length : Int)) = true := decide_eq_true c4
      clear c4
      by_cases c5 : ((rd_T55 l0 x7_1).f1) = 0
      ·rw [if_pos c5] at H
       have c5b0 : (((rd_T55 l0 x7_1).f1) == 0) = true := beq_iff_eq.mpr c5
       have c5b1 : (((rd_T55 l0 x7_1).f1) != 0) = false := bne_eq_false_iff_eq.mpr c5
       clear c5
       obtain rfl := Option.some.inj H
       have p204 : 0 ≤ (x7_1 : Int) := of_decide_eq_true as_
       have q204 : x7_1 < (l0.length : Int) := of_decide_eq_true as_
       obtain ⟨ad204, e204, hx204_0, hx204_1, hx204_2, hx204_3, hx204_4, hx204_5⟩ := at_T55 HR0.out x7_1 p204 q204
       cases e204; replace hx204_0 := cb HB hx204_0; replace hx204_1 := cb HB hx204_1; replace hx204_2 := cb HB hx204_2; replace hx204_3 := cb HB hx204_3; replace hx204_4 := cb HB hx204_4; replace hx204_5 := cb HB hx204_5; replace p204 := eq_true p204; replace q204 := eq_true q204
       try go_wp2_with (first | ((with_reducible refine gate_dst (N := 4) rfl ?_); refine box_event ?hg (N := 4) ?hd (cs := #[.string (⟨#[]⟩ : ByteArray), .string (⟨#[]⟩ : ByteArray), .string (⟨#[]⟩ : ByteArray), .string (⟨#[]⟩ : ByteArray), .int .i64 0, .int .i64 0]) (t := 55) ?hr ?_; (case hd => rfl); (case hg => rfl); (case hr => first | (go_simp; done) | (go_simp; rfl)); intro gb205 hg w6 hbox hb; have n0_ := Aside0.mk (below_step bw hb); have n1_ := Aside0.mk (hbox); have n2_ := Aside0.mk ((by rw [hg]; exact (below_size bw) : w.heap.size ≤ gb205)); have n3_ := Aside0.mk ((by rw [hg]; exact (below_size bw) : w.heap.size ≤ gb205)); clear HB; have HB := n0_; have BK205 := n1_; have GW205 := n2_; have GE205 := n3_; clear n0_ n1_ n2_ n3_; clear hb hbox hg; obtain ⟨hcz7_0, hcz7_1, hcz7_2, hcz7_3, hcz7_4, hcz7_5⟩ := bc6 BK205.out; have hfz7_0 := blk_frozen BK205.out 0; have hfz7_1 := blk_frozen BK205.out 1; have hfz7_2 := blk_frozen BK205.out 2; have hfz7_3 := blk_frozen BK205.out 3; have hfz7_4 := blk_frozen BK205.out 4; have hfz7_5 := blk_frozen BK205.out 5))
       have n0_ : Aside0 (((((((w6.setCell ⟨gb205, 0, none⟩ (.string ((rd_T55 l0 x7_1).f0.f0))).setCell ⟨gb205, 1, none⟩ (.string ((rd_T55 l0 x7_1).f0.f1))).setCell ⟨gb205, 2, none⟩ (.string ((rd_T55 l0 x7_1).f0.f2))).setCell ⟨gb205, 3, none⟩ (.string ((rd_T55 l0 x7_1).f0.f3))).setCell ⟨gb205, 4, none⟩ (.int .i64 ((rd_T55 l0 x7_1).f0.f4))).setCell ⟨gb205, 5, none⟩ (.int .i64 ((rd_T55 l0 x7_1).f1))).heap[gb205]? = some (.cells #[.string ((rd_T55 l0 x7_1).f0.f0), .string ((rd_T55 l0 x7_1).f0.f1), .string ((rd_T55 l0 x7_1).f0.f2), .string ((rd_T55 l0 x7_1).f0.f3), .int .i64 ((rd_T55 l0 x7_1).f0.f4), .int .i64 ((rd_T55 l0 x7_1).f1)] 55 (0, 0))) := ⟨by (with_reducible repeat (first | refine blk_drewN ?_ _ | refine blk_drew ?_ | refine blk_alloc ?_ _)); refine blk_put (cs := #[.string ((rd_T55 l0 x7_1).f0.f0), .string ((rd_T55 l0 x7_1).f0.f1), .string ((rd_T55 l0 x7_1).f0.f2), .string ((rd_T55 l0 x7_1).f0.f3), .int .i64 ((rd_T55 l0 x7_1).f0.f4), .int .i64 0]) ?_ 5 _ rfl; (with_reducible repeat (first | refine blk_drewN ?_ _ | refine blk_drew ?_ | refine blk_alloc ?_ _)); refine blk_put (cs := #[.string ((rd_T55 l0 x7_1).f0.f0), .string ((rd_T55 l0 x7_1).f0.f1), .string ((rd_T55 l0 x7_1).f0.f2), .string ((rd_T55 l0 x7_1).f0.f3), .int .i64 0, .int .i64 0]) ?_ 4 _ rfl; (with_reducible repeat (first | refine blk_drewN ?_ _ | refine blk_drew ?_ | refine blk_alloc ?_ _)); refine blk_put (cs := #[.string ((rd_T55 l0 x7_1).f0.f0), .string ((rd_T55 l0 x7_1).f0.f1), .string ((rd_T55 l0 x7_1).f0.f2), .string (⟨#[]⟩ : ByteArray), .int .i64 0, .int .i64 0]) ?_ 3 _ rfl; (with_reducible repeat (first | refine blk_drewN ?_ _ | refine blk_drew ?_ | refine blk_alloc ?_ _)); refine blk_put (cs := #[.string ((rd_T55 l0 x7_1).f0.f0), .string ((rd_T55 l0 x7_1).f0.f1), .string (⟨#[]⟩ : ByteArray), .string (⟨#[]⟩ : ByteArray), .int .i64 0, .int .i64 0]) ?_ 2 _ rfl; (with_reducible repeat (first | refine blk_drewN ?_ _ | refine blk_drew ?_ | refine blk_alloc ?_ _)); refine blk_put (cs := #[.string ((rd_T55 l0 x7_1).f0.f0), .string (⟨#[]⟩ : ByteArray), .string (⟨#[]⟩ : ByteArray), .string (⟨#[]⟩ : ByteArray), .int .i64 0, .int .i64 0]) ?_ 1 _ rfl; (with_reducible repeat (first | refine blk_drewN ?_ _ | refine blk_drew ?_ | refine blk_alloc ?_ _)); refine blk_put (cs := #[.string (⟨#[]⟩ : ByteArray), .string (⟨#[]⟩ : ByteArray), .string (⟨#[]⟩ : ByteArray), .string (⟨#[]⟩ : ByteArray), .int .i64 0, .int .i64 0]) ?_ 0 _ rfl; (with_reducible repeat (first | refine blk_drewN ?_ _ | refine blk_drew ?_ | refine blk_alloc ?_ _)); exact BK205.out⟩
       have n1_ : Aside0 (Below w.heap.size w ((((((w6.setCell ⟨gb205, 0, none⟩ (.string ((rd_T55 l0 x7_1).f0.f0))).setCell ⟨gb205, 1, none⟩ (.string ((rd_T55 l0 x7_1).f0.f1))).setCell ⟨gb205, 2, none⟩ (.string ((rd_T55 l0 x7_1).f0.f2))).setCell ⟨gb205, 3, none⟩ (.string ((rd_T55 l0 x7_1).f0.f3))).setCell ⟨gb205, 4, none⟩ (.int .i64 ((rd_T55 l0 x7_1).f0.f4))).setCell ⟨gb205, 5, none⟩ (.int .i64 ((rd_T55 l0 x7_1).f1)))) := ⟨bx⟩
       (try clear BK205)
       (try clear HB)
       generalize ((((((w6.setCell ⟨gb205, 0, none⟩ (.string ((rd_T55 l0 x7_1).f0.f0))).setCell ⟨gb205, 1, none⟩ (.string ((rd_T55 l0 x7_1).f0.f1))).setCell ⟨gb205, 2, none⟩ (.string ((rd_T55 l0 x7_1).f0.f2))).setCell ⟨gb205, 3, none⟩ (.string ((rd_T55 l0 x7_1).f0.f3))).setCell ⟨gb205, 4, none⟩ (.int .i64 ((rd_T55 l0 x7_1).f0.f4))).setCell ⟨gb205, 5, none⟩ (.int .i64 ((rd_T55 l0 x7_1).f1))) = w8 at n0_ n1_ ⊢
       have BK205 := n0_; have HB := n1_; clear n0_ n1_
       have n0_ := Aside0.mk (blk_drew BK205.out)
       have n1_ := Aside0.mk (below_drew1 HB.out)
       clear BK205 HB; have BK205 := n0_; have HB := n1_; clear n0_ n1_
       refine start_ (n := 19) (S := fun w' => w'.cell? ⟨gb205, 0, none⟩ = some (.string ((rd_T55 l0 x7_1).f0.f0)) ∧ w'.cell? ⟨gb205, 1, none⟩ = some (.string ((rd_T55 l0 x7_1).f0.f1)) ∧ w'.cell? ⟨gb205, 2, none⟩ = some (.string ((rd_T55 l0 x7_1).f0.f2)) ∧ w'.cell? ⟨gb205, 3, none⟩ = some (.string ((rd_T55 l0 x7_1).f0.f3)) ∧ w'.cell? ⟨gb205, 4, none⟩ = some (.int .i64 ((rd_T55 l0 x7_1).f0.f4)) ∧ w'.cell? ⟨gb205, 5, none⟩ = some (.int .i64 ((rd_T55 l0 x7_1).f1))) (ds := []) (fl 19 0) (by kernel_rfl) rfl rfl ⟨(blk_cell BK205.out 0).trans rfl, (blk_cell BK205.out 1).trans rfl, (blk_cell BK205.out 2).trans rfl, (blk_cell BK205.out 3).trans rfl, (blk_cell BK205.out 4).trans rfl, (blk_cell BK205.out 5).trans rfl⟩ (fun hHeld => ?_); refine with_tabW fact_Right.tab4 fact_Right.bits4 (fun HT_ HW_ => ?_)
       generalize w8.drew = w9 at BK205 HB hHeld ⊢
       refine pu 0 (some 12) (fl 19 1) HT_ ?_
       refine tu 1 (some 13) (fl 19 3) HT_ HW_ hHeld ?_
       refine pu 2 (some 14) (fl 19 7) HT_ ?_
       refine pu 3 (some 15) (fl 19 15) HT_ ?_
       refine pure_ (i := 4) (N := some 16) (v := undef) (a' := ?_) (fl 19 31) rfl rfl (any_of HT_.out (by kernel_rfl)) (fun _ _ _ h => h) (Or.inr ⟨by rfl, rfl⟩) ?_ ?_
       rotate_left
       ·simp only [Act.put, List.setIfInBounds_toArray, List.set_cons_zero, List.set_cons_succ, i64_w, i32_w]
        rfl
       refine pure_ (i := 5) (N := some 17) (v := undef) (a' := ?_) (fl 19 63) rfl rfl (any_of HT_.out (by kernel_rfl)) (fun _ _ _ h => h) (Or.inr ⟨by rfl, rfl⟩) ?_ ?_
       rotate_left
       ·simp only [Act.put, List.setIfInBounds_toArray, List.set_cons_zero, List.set_cons_succ, i64_w, i32_w]
        rfl
       refine pure_ (i := 6) (N := some 18) (v := undef) (a' := ?_) (fl 19 127) rfl rfl (any_of HT_.out (by kernel_rfl)) (fun _ _ _ h => h) (Or.inr ⟨by rfl, rfl⟩) ?_ ?_
       rotate_left
       ·simp only [Act.put, List.setIfInBounds_toArray, List.set_cons_zero, List.set_cons_succ, i64_w, i32_w]
        rfl
       refine pure_ (i := 7) (N := some 19) (v := undef) (a' := ?_) (fl 19 255) rfl rfl (any_of HT_.out (by kernel_rfl)) (fun _ _ _ h => h) (Or.inr ⟨by rfl, rfl⟩) ?_ ?_
       rotate_left
       ·simp only [Act.put, List.setIfInBounds_toArray, List.set_cons_zero, List.set_cons_succ, i64_w, i32_w]
        rfl
       refine pure_ (i := 8) (N := some 20) (v := undef) (a' := ?_) (fl 19 511) rfl rfl (any_of HT_.out (by kernel_rfl)) (fun _ _ _ h => h) (Or.inr ⟨by rfl, rfl⟩) ?_ ?_
       rotate_left
       ·simp only [Act.put, List.setIfInBounds_toArray, List.set_cons_zero, List.set_cons_succ, i64_w, i32_w]
        rfl
       refine pure_ (i := 9) (N := some 21) (v := undef) (a' := ?_) (fl 19 1023) rfl rfl (any_of HT_.out (by kernel_rfl)) (fun _ _ _ h => h) (Or.inr ⟨by rfl, rfl⟩) ?_ ?_
       rotate_left
       ·simp only [Act.put, List.setIfInBounds_toArray, List.set_cons_zero, List.set_cons_succ, i64_w, i32_w]
        rfl
       refine pure_ (i := 10) (N := some 22) (v := undef) (a' := ?_) (fl 19 2047) rfl rfl (any_of HT_.out (by kernel_rfl)) (fun _ _ _ h => h) (Or.inr ⟨by rfl, rfl⟩) ?_ ?_
       rotate_left
       ·simp only [Act.put, List.setIfInBounds_toArray, List.set_cons_zero, List.set_cons_succ, i64_w, i32_w]
        rfl
       refine pure_ (i := 11) (N := some 23) (v := undef) (a' := ?_) (fl 19 4095) rfl rfl (any_of HT_.out (by kernel_rfl)) (fun _ _ _ h => h) (Or.inr ⟨by rfl, rfl⟩) ?_ ?_
       rotate_left
       ·simp only [Act.put, List.setIfInBounds_toArray, List.set_cons_zero, List.set_cons_succ, i64_w, i32_w]
        rfl
       refine pure_ (i := 12) (N := some 24) (v := undef) (a' := ?_) (fl 19 8191) rfl rfl (any_of HT_.out (by kernel_rfl)) (fun _ _ _ h => h) (Or.inr ⟨by rfl, rfl⟩) ?_ ?_
       rotate_left
       ·simp only [Act.put, List.setIfInBounds_toArray, List.set_cons_zero, List.set_cons_succ, i64_w, i32_w]
        rfl
       refine pure_ (i := 13) (N := some 25) (v := undef) (a' := ?_) (fl 19 16383) rfl rfl (any_of HT_.out (by kernel_rfl)) (fun _ _ _ h => h) (Or.inr ⟨by rfl, rfl⟩) ?_ ?_
       rotate_left
       ·simp only [Act.put, List.setIfInBounds_toArray, List.set_cons_zero, List.set_cons_succ, i64_w, i32_w]
        rfl
       refine pure_ (i := 14) (N := some 26) (v := undef) (a' := ?_) (fl 19 32767) rfl rfl (any_of HT_.out (by kernel_rfl)) (fun _ _ _ h => h) (Or.inr ⟨by rfl, rfl⟩) ?_ ?_
       rotate_left
       ·simp only [Act.put, List.setIfInBounds_toArray, List.set_cons_zero, List.set_cons_succ, i64_w, i32_w]
        rfl
       refine pure_ (i := 15) (N := some 27) (v := undef) (a' := ?_) (fl 19 65535) rfl rfl (any_of HT_.out (by kernel_rfl)) (fun _ _ _ h => h) (Or.inr ⟨by rfl, rfl⟩) ?_ ?_
       rotate_left
       ·simp only [Act.put, List.setIfInBounds_toArray, List.set_cons_zero, List.set_cons_succ, i64_w, i32_w]
        rfl
       refine pure_ (i := 16) (N := some 28) (v := undef) (a' := ?_) (fl 19 131071) rfl rfl (any_of HT_.out (by kernel_rfl)) (fun _ _ _ h => h) (Or.inr ⟨by rfl, rfl⟩) ?_ ?_
       rotate_left
       ·simp only [Act.put, List.setIfInBounds_toArray, List.set_cons_zero, List.set_cons_succ, i64_w, i32_w]
        rfl
       refine pure_ (i := 17) (N := some 29) (v := undef) (a' := ?_) (fl 19 262143) rfl rfl (any_of HT_.out (by kernel_rfl)) (fun _ _ _ h => h) (Or.inr ⟨by rfl, rfl⟩) ?_ ?_
       rotate_left
       ·simp only [Act.put, List.setIfInBounds_toArray, List.set_cons_zero, List.set_cons_succ, i64_w, i32_w]
        rfl
       refine pu 18 (some 30) (fl 19 524287) HT_ ?_
       refine done_ (done_of HT_.out (by kernel_rfl)) ?_
       try go_wp2
       go_ret
       exact ⟨re_, bx⟩
      ·rw [if_neg c5] at H
       have c5b0 : (((rd_T55 l0 x7_1).f1) == 0) = false := beq_eq_false_iff_ne.mpr c5
       have c5b1 : (((rd_T55 l0 x7_1).f1) != 0) = true := bne_iff_ne.mpr c5
       by_cases c10 : x7_1 > 0
       ·rw [if_pos c10] at H
        have c10b0 : decide (0 < x7_1) = true := decide_eq_true c10
        clear c10
        obtain ⟨ji11, hji11⟩ : ∃ j_ : Int, (wrap64 (x7_1 - 1)) = j_ := ⟨_, rfl⟩
        replace H : (if 0 ≤ (ji11) then (if (ji11) < (l0.length : Int) then ((fact_Cmp.f k1 ((rd_T55 l0 (ji11)).f0.f0) ((rd_T55 l0 (ji11)).f0.f1) ((rd_T55 l0 (ji11)).f0.f2) ((rd_T55 l0 (ji11)).f0.f3) ((rd_T55 l0 (ji11)).f0.f4) ((rd_T55 l0 x7_1).f0.f0) ((rd_T55 l0 x7_1).f0.f1) ((rd_T55 l0 x7_1).f0.f2) ((rd_T55 l0 x7_1).f0.f3) ((rd_T55 l0 x7_1).f0.f4)).bind fun t207 => (if t207 ≥ 0 then (some false) else (fact_Right.l0 k1 l0 l0 (l0.length : Int) (wrap64 (x7_1 + 1))))) else (none)) else (none)) = some r := by first | (rw [hji11] at H; exact H) | (simp only [hji11] at H ⊢; exact H)
        have hji11w : (IntKind.i64.wrap (x7_1 - 1)) = ji11 := (i64_w _).trans hji11
        by_cases c12 : 0 ≤ (ji11)
        ·rw [if_pos c12] at H
         have c12b0 : decide (0 ≤ (ji11)) = true := decide_eq_true c12
         clear c12
         by_cases c13 : (ji11) < (l0.length : Int)
         ·rw [if_pos c13] at H
          have c13b0 : decide ((ji11) < (l0.length : Int)) = true := decide_eq_true c13
          clear c13
          replace H := Option.bind_eq_some_iff.mp H
          obtain ⟨t207, A140, H⟩ := H
          replace H : (if t207 ≥ 0 then (some false) else (fact_Right.l0 k1 l0 l0 (l0.length : Int) (wrap64 (x7_1 + 1)))) = some r := H
          have A14 := Aside0.mk A140; clear A140
          by_cases c15 : t207 ≥ 0
          ·rw [if_pos c15] at H
           have c15b0 : decide (0 ≤ t207) = true := decide_eq_true c15
           clear c15
           obtain rfl := Option.some.inj H
           have p204 : 0 ≤ (x7_1 : Int) := of_decide_eq_true as_
           have q204 : x7_1 < (l0.length : Int) := of_decide_eq_true as_
           obtain ⟨ad204, e204, hx204_0, hx204_1, hx204_2, hx204_3, hx204_4, hx204_5⟩ := at_T55 HR0.out x7_1 p204 q204
           cases e204; replace hx204_0 := cb HB hx204_0; replace hx204_1 := cb HB hx204_1; replace hx204_2 := cb HB hx204_2; replace hx204_3 := cb HB hx204_3; replace hx204_4 := cb HB hx204_4; replace hx204_5 := cb HB hx204_5; replace p204 := eq_true p204; replace q204 := eq_true q204
           try go_wp2_with (first | ((with_reducible refine gate_dst (N := 4) rfl ?_); refine box_event ?hg (N := 4) ?hd (cs := #[.string (⟨#[]⟩ : ByteArray), .string (⟨#[]⟩ : ByteArray), .string (⟨#[]⟩ : ByteArray), .string (⟨#[]⟩ : ByteArray), .int .i64 0, .int .i64 0]) (t := 55) ?hr ?_; (case hd => rfl); (case hg => rfl); (case hr => first | (go_simp; done) | (go_simp; rfl)); intro gb205 hg w16 hbox hb; have n0_ := Aside0.mk (below_step bw hb); have n1_ := Aside0.mk (hbox); have n2_ := Aside0.mk ((by rw [hg]; exact (below_size bw) : w.heap.size ≤ gb205)); have n3_ := Aside0.mk ((by rw [hg]; exact (below_size bw) : w.heap.size ≤ gb205)); clear HB; have HB := n0_; have BK205 := n1_; have GW205 := n2_; have GE205 := n3_; clear n0_ n1_ n2_ n3_; clear hb hbox hg; obtain ⟨hcz17_0, hcz17_1, hcz17_2, hcz17_3, hcz17_4, hcz17_5⟩ := bc6 BK205.out; have hfz17_0 := blk_frozen BK205.out 0; have hfz17_1 := blk_frozen BK205.out 1; have hfz17_2 := blk_frozen BK205.out 2; have hfz17_3 := blk_frozen BK205.out 3; have hfz17_4 := blk_frozen BK205.out 4; have hfz17_5 := blk_frozen BK205.out 5))
           have n0_ : Aside0 (((((((w16.setCell ⟨gb205, 0, none⟩ (.string ((rd_T55 l0 x7_1).f0.f0))).setCell ⟨gb205, 1, none⟩ (.string ((rd_T55 l0 x7_1).f0.f1))).setCell ⟨gb205, 2, none⟩ (.string ((rd_T55 l0 x7_1).f0.f2))).setCell ⟨gb205, 3, none⟩ (.string ((rd_T55 l0 x7_1).f0.f3))).setCell ⟨gb205, 4, none⟩ (.int .i64 ((rd_T55 l0 x7_1).f0.f4))).setCell ⟨gb205, 5, none⟩ (.int .i64 ((rd_T55 l0 x7_1).f1))).heap[gb205]? = some (.cells #[.string ((rd_T55 l0 x7_1).f0.f0), .string ((rd_T55 l0 x7_1).f0.f1), .string ((rd_T55 l0 x7_1).f0.f2), .string ((rd_T55 l0 x7_1).f0.f3), .int .i64 ((rd_T55 l0 x7_1).f0.f4), .int .i64 ((rd_T55 l0 x7_1).f1)] 55 (0, 0))) := ⟨by (with_reducible repeat (first | refine blk_drewN ?_ _ | refine blk_drew ?_ | refine blk_alloc ?_ _)); refine blk_put (cs := #[.string ((rd_T55 l0 x7_1).f0.f0), .string ((rd_T55 l0 x7_1).f0.f1), .string ((rd_T55 l0 x7_1).f0.f2), .string ((rd_T55 l0 x7_1).f0.f3), .int .i64 ((rd_T55 l0 x7_1).f0.f4), .int .i64 0]) ?_ 5 _ rfl; (with_reducible repeat (first | refine blk_drewN ?_ _ | refine blk_drew ?_ | refine blk_alloc ?_ _)); refine blk_put (cs := #[.string ((rd_T55 l0 x7_1).f0.f0), .string ((rd_T55 l0 x7_1).f0.f1), .string ((rd_T55 l0 x7_1).f0.f2), .string ((rd_T55 l0 x7_1).f0.f3), .int .i64 0, .int .i64 0]) ?_ 4 _ rfl; (with_reducible repeat (first | refine blk_drewN ?_ _ | refine blk_drew ?_ | refine blk_alloc ?_ _)); refine blk_put (cs := #[.string ((rd_T55 l0 x7_1).f0.f0), .string ((rd_T55 l0 x7_1).f0.f1), .string ((rd_T55 l0 x7_1).f0.f2), .string (⟨#[]⟩ : ByteArray), .int .i64 0, .int .i64 0]) ?_ 3 _ rfl; (with_reducible repeat (first | refine blk_drewN ?_ _ | refine blk_drew ?_ | refine blk_alloc ?_ _)); refine blk_put (cs := #[.string ((rd_T55 l0 x7_1).f0.f0), .string ((rd_T55 l0 x7_1).f0.f1), .string (⟨#[]⟩ : ByteArray), .string (⟨#[]⟩ : ByteArray), .int .i64 0, .int .i64 0]) ?_ 2 _ rfl; (with_reducible repeat (first | refine blk_drewN ?_ _ | refine blk_drew ?_ | refine blk_alloc ?_ _)); refine blk_put (cs := #[.string ((rd_T55 l0 x7_1).f0.f0), .string (⟨#[]⟩ : ByteArray), .string (⟨#[]⟩ : ByteArray), .string (⟨#[]⟩ : ByteArray), .int .i64 0, .int .i64 0]) ?_ 1 _ rfl; (with_reducible repeat (first | refine blk_drewN ?_ _ | refine blk_drew ?_ | refine blk_alloc ?_ _)); refine blk_put (cs := #[.string (⟨#[]⟩ : ByteArray), .string (⟨#[]⟩ : ByteArray), .string (⟨#[]⟩ : ByteArray), .string (⟨#[]⟩ : ByteArray), .int .i64 0, .int .i64 0]) ?_ 0 _ rfl; (with_reducible repeat (first | refine blk_drewN ?_ _ | refine blk_drew ?_ | refine blk_alloc ?_ _)); exact BK205.out⟩
           have n1_ : Aside0 (Below w.heap.size w ((((((w16.setCell ⟨gb205, 0, none⟩ (.string ((rd_T55 l0 x7_1).f0.f0))).setCell ⟨gb205, 1, none⟩ (.string ((rd_T55 l0 x7_1).f0.f1))).setCell ⟨gb205, 2, none⟩ (.string ((rd_T55 l0 x7_1).f0.f2))).setCell ⟨gb205, 3, none⟩ (.string ((rd_T55 l0 x7_1).f0.f3))).setCell ⟨gb205, 4, none⟩ (.int .i64 ((rd_T55 l0 x7_1).f0.f4))).setCell ⟨gb205, 5, none⟩ (.int .i64 ((rd_T55 l0 x7_1).f1)))) := ⟨bx⟩
           (try clear BK205)
           (try clear HB)
           generalize ((((((w16.setCell ⟨gb205, 0, none⟩ (.string ((rd_T55 l0 x7_1).f0.f0))).setCell ⟨gb205, 1, none⟩ (.string ((rd_T55 l0 x7_1).f0.f1))).setCell ⟨gb205, 2, none⟩ (.string ((rd_T55 l0 x7_1).f0.f2))).setCell ⟨gb205, 3, none⟩ (.string ((rd_T55 l0 x7_1).f0.f3))).setCell ⟨gb205, 4, none⟩ (.int .i64 ((rd_T55 l0 x7_1).f0.f4))).setCell ⟨gb205, 5, none⟩ (.int .i64 ((rd_T55 l0 x7_1).f1))) = w18 at n0_ n1_ ⊢
           have BK205 := n0_; have HB := n1_; clear n0_ n1_
           have n0_ := Aside0.mk (blk_drew BK205.out)
           have n1_ := Aside0.mk (below_drew1 HB.out)
           clear BK205 HB; have BK205 := n0_; have HB := n1_; clear n0_ n1_
           have p206 : 0 ≤ ((ji11) : Int) := of_decide_eq_true as_
           have q206 : (ji11) < (l0.length : Int) := of_decide_eq_true as_
           obtain ⟨ad206, e206, hx206_0, hx206_1, hx206_2, hx206_3, hx206_4, hx206_5⟩ := at_T55 HR0.out (ji11) p206 q206
           have hw206_5 := hx206_5; have hw206_4 := hx206_4; have hw206_3 := hx206_3; have hw206_2 := hx206_2; have hw206_1 := hx206_1; have hw206_0 := hx206_0
           obtain rfl : ad204 = ad206 := (by injection e206)
           replace hx206_0 := cb HB hx206_0; replace hx206_1 := cb HB hx206_1; replace hx206_2 := cb HB hx206_2; replace hx206_3 := cb HB hx206_3; replace hx206_4 := cb HB hx206_4; replace hx206_5 := cb HB hx206_5; replace p206 := eq_true p206; replace q206 := eq_true q206
           refine start_ (n := 19) (S := fun w' => w'.cell? ⟨gb205, 0, none⟩ = some (.string ((rd_T55 l0 x7_1).f0.f0)) ∧ w'.cell? ⟨gb205, 1, none⟩ = some (.string ((rd_T55 l0 x7_1).f0.f1)) ∧ w'.cell? ⟨gb205, 2, none⟩ = some (.string ((rd_T55 l0 x7_1).f0.f2)) ∧ w'.cell? ⟨gb205, 3, none⟩ = some (.string ((rd_T55 l0 x7_1).f0.f3)) ∧ w'.cell? ⟨gb205, 4, none⟩ = some (.int .i64 ((rd_T55 l0 x7_1).f0.f4)) ∧ w'.cell? ⟨gb205, 5, none⟩ = some (.int .i64 ((rd_T55 l0 x7_1).f1)) ∧ w'.cell? (ad204.add (((ji11)).toNat * 6)) = some (.string ((rd_T55 l0 (ji11)).f0.f0)) ∧ w'.cell? ⟨(ad204.add (((ji11)).toNat * 6)).block, (ad204.add (((ji11)).toNat * 6)).off + 1, none⟩ = some (.string ((rd_T55 l0 (ji11)).f0.f1)) ∧ w'.cell? ⟨(ad204.add (((ji11)).toNat * 6)).block, (ad204.add (((ji11)).toNat * 6)).off + 2, none⟩ = some (.string ((rd_T55 l0 (ji11)).f0.f2)) ∧ w'.cell? ⟨(ad204.add (((ji11)).toNat * 6)).block, (ad204.add (((ji11)).toNat * 6)).off + 3, none⟩ = some (.string ((rd_T55 l0 (ji11)).f0.f3)) ∧ w'.cell? ⟨(ad204.add (((ji11)).toNat * 6)).block, (ad204.add (((ji11)).toNat * 6)).off + 4, none⟩ = some (.int .i64 ((rd_T55 l0 (ji11)).f0.f4)) ∧ w'.cell? ⟨(ad204.add (((ji11)).toNat * 6)).block, (ad204.add (((ji11)).toNat * 6)).off + 5, none⟩ = some (.int .i64 ((rd_T55 l0 (ji11)).f1))) (ds := []) (fl 19 0) (by kernel_rfl) rfl rfl ⟨(blk_cell BK205.out 0).trans rfl, (blk_cell BK205.out 1).trans rfl, (blk_cell BK205.out 2).trans rfl, (blk_cell BK205.out 3).trans rfl, (blk_cell BK205.out 4).trans rfl, (blk_cell BK205.out 5).trans rfl, (cb HB hw206_0), (cb HB hw206_1), (cb HB hw206_2), (cb HB hw206_3), (cb HB hw206_4), (cb HB hw206_5)⟩ (fun hHeld => ?_); refine with_tabW fact_Right.tab4 fact_Right.bits4 (fun HT_ HW_ => ?_)
           generalize w18.drew = w19 at BK205 HB hx206_0 hx206_1 hx206_2 hx206_3 hx206_4 hx206_5 hHeld ⊢
           refine pu 0 (some 12) (fl 19 1) HT_ ?_
           refine tu 1 (some 13) (fl 19 3) HT_ HW_ hHeld ?_
           refine pu 2 (some 14) (fl 19 7) HT_ ?_
           refine pu 3 (some 15) (fl 19 15) HT_ ?_
           refine pu 4 (some 16) (fl 19 31) HT_ ?_
           refine pu 5 (some 17) (fl 19 63) HT_ ?_
           refine pu 6 (some 18) (fl 19 127) HT_ ?_
           refine pu 7 (some 19) (fl 19 255) HT_ ?_
           refine pu 8 (some 20) (fl 19 511) HT_ ?_
           refine pu 9 (some 21) (fl 19 1023) HT_ ?_
           refine pu 10 (some 22) (fl 19 2047) HT_ ?_
           refine pu 11 (some 23) (fl 19 4095) HT_ ?_
           refine pu 13 (some 25) (fl 19 12287) HT_ ?_
           refine tu 12 (some 24) (fl 19 16383) HT_ HW_ hHeld ?_
           refine tu 14 (some 26) (fl 19 32767) HT_ HW_ hHeld ?_
           refine one_ (i := 15) (N := some 27) (fl 19 65535) rfl rfl (one_of HT_.out (by kernel_rfl)) (by decide) (fun K hK => ?_)
           refine goes_ Try.func23 (by kernel_rfl) rfl #[.agg #[.string ((rd_T55 l0 (ji11)).f0.f0), .string ((rd_T55 l0 (ji11)).f0.f1), .string ((rd_T55 l0 (ji11)).f0.f2), .string ((rd_T55 l0 (ji11)).f0.f3), .int .i64 ((rd_T55 l0 (ji11)).f0.f4)], .agg #[.string ((rd_T55 l0 x7_1).f0.f0), .string ((rd_T55 l0 x7_1).f0.f1), .string ((rd_T55 l0 x7_1).f0.f2), .string ((rd_T55 l0 x7_1).f0.f3), .int .i64 ((rd_T55 l0 x7_1).f0.f4)]] (by rfl) rfl rfl (by (try simp only [List.map_toArray, List.map_cons, List.map_nil]); first | done | (simp only [hji11]; rfl) | rfl | (simp only [List.length_drop, List.length_take]; rfl)) ?_
           with_reducible refine (fact_Cmp.calls k1 ((rd_T55 l0 (ji11)).f0.f0) ((rd_T55 l0 (ji11)).f0.f1) ((rd_T55 l0 (ji11)).f0.f2) ((rd_T55 l0 (ji11)).f0.f3) ((rd_T55 l0 (ji11)).f0.f4) ((rd_T55 l0 x7_1).f0.f0) ((rd_T55 l0 x7_1).f0.f1) ((rd_T55 l0 x7_1).f0.f2) ((rd_T55 l0 x7_1).f0.f3) ((rd_T55 l0 x7_1).f0.f4) t207 _ A14.out).mono ?_
           rintro e w20 ⟨rfl, hb⟩
           refine ⟨_, rfl, ?_⟩
           have n0_ := Aside0.mk (blk_below (g := gb205) (o := .cells #[.string ((rd_T55 l0 x7_1).f0.f0), .string ((rd_T55 l0 x7_1).f0.f1), .string ((rd_T55 l0 x7_1).f0.f2), .string ((rd_T55 l0 x7_1).f0.f3), .int .i64 ((rd_T55 l0 x7_1).f0.f4), .int .i64 ((rd_T55 l0 x7_1).f1)] 55 (0, 0)) (by (with_reducible repeat (first | refine blk_drewN ?_ _ | refine blk_drew ?_ | refine blk_alloc ?_ _)); exact BK205.out) hb)
           have n1_ := Aside0.mk (below_step bx hb)
           clear BK205 HB; have BK205 := n0_; have HB := n1_; clear n0_ n1_
           (try clear hb)
           (try clear hb2)
           (try clear hk)
           (try clear hi)
           refine hK.out _ _ ⟨(blk_cell BK205.out 0).trans rfl, (blk_cell BK205.out 1).trans rfl, (blk_cell BK205.out 2).trans rfl, (blk_cell BK205.out 3).trans rfl, (blk_cell BK205.out 4).trans rfl, (blk_cell BK205.out 5).trans rfl, (cb HB hw206_0), (cb HB hw206_1), (cb HB hw206_2), (cb HB hw206_3), (cb HB hw206_4), (cb HB hw206_5)⟩ (fun hHeld => ?_)
           clear hK K
           refine norm_ (a' := ?_) ?_ ?_
           rotate_left
           ·show Act.put _ (some 27) _ = _
            simp only [Act.put, List.setIfInBounds_toArray, List.set_cons_zero, List.set_cons_succ, i64_w, i32_w]
            rfl
           refine pu 16 (some 28) (fl 19 131071) HT_ ?_
           refine pu 17 (some 29) (fl 19 262143) HT_ ?_
           refine pu 18 (some 30) (fl 19 524287) HT_ ?_
           refine done_ (done_of HT_.out (by kernel_rfl)) ?_
           try go_wp2
           go_ret
           exact ⟨by first | rfl | (simp [errW_none, errW_some] <;> rfl) | (simp only [← hji11]; first | rfl | (simp [errW_none, errW_some] <;> rfl)) | (simp [*, errW_none, errW_some] <;> rfl), bx⟩
          ·rw [if_neg c15] at H
           have c15b0 : decide (0 ≤ t207) = false := decide_eq_false c15
           clear c15
           have H' := Aside0.mk H
           clear H
           have p204 : 0 ≤ (x7_1 : Int) := of_decide_eq_true as_
           have q204 : x7_1 < (l0.length : Int) := of_decide_eq_true as_
           obtain ⟨ad204, e204, hx204_0, hx204_1, hx204_2, hx204_3, hx204_4, hx204_5⟩ := at_T55 HR0.out x7_1 p204 q204
           cases e204; replace hx204_0 := cb HB hx204_0; replace hx204_1 := cb HB hx204_1; replace hx204_2 := cb HB hx204_2; replace hx204_3 := cb HB hx204_3; replace hx204_4 := cb HB hx204_4; replace hx204_5 := cb HB hx204_5; replace p204 := eq_true p204; replace q204 := eq_true q204
           try go_wp2_with (first | ((with_reducible refine gate_dst (N := 4) rfl ?_); refine box_event ?hg (N := 4) ?hd (cs := #[.string (⟨#[]⟩ : ByteArray), .string (⟨#[]⟩ : ByteArray), .string (⟨#[]⟩ : ByteArray), .string (⟨#[]⟩ : ByteArray), .int .i64 0, .int .i64 0]) (t := 55) ?hr ?_; (case hd => rfl); (case hg => rfl); (case hr => first | (go_simp; done) | (go_simp; rfl)); intro gb205 hg w21 hbox hb; have n0_ := Aside0.mk (below_step bw hb); have n1_ := Aside0.mk (hbox); have n2_ := Aside0.mk ((by rw [hg]; exact (below_size bw) : w.heap.size ≤ gb205)); have n3_ := Aside0.mk ((by rw [hg]; exact (below_size bw) : w.heap.size ≤ gb205)); clear HB; have HB := n0_; have BK205 := n1_; have GW205 := n2_; have GE205 := n3_; clear n0_ n1_ n2_ n3_; clear hb hbox hg; obtain ⟨hcz22_0, hcz22_1, hcz22_2, hcz22_3, hcz22_4, hcz22_5⟩ := bc6 BK205.out; have hfz22_0 := blk_frozen BK205.out 0; have hfz22_1 := blk_frozen BK205.out 1; have hfz22_2 := blk_frozen BK205.out 2; have hfz22_3 := blk_frozen BK205.out 3; have hfz22_4 := blk_frozen BK205.out 4; have hfz22_5 := blk_frozen BK205.out 5))
           have n0_ : Aside0 (((((((w21.setCell ⟨gb205, 0, none⟩ (.string ((rd_T55 l0 x7_1).f0.f0))).setCell ⟨gb205, 1, none⟩ (.string ((rd_T55 l0 x7_1).f0.f1))).setCell ⟨gb205, 2, none⟩ (.string ((rd_T55 l0 x7_1).f0.f2))).setCell ⟨gb205, 3, none⟩ (.string ((rd_T55 l0 x7_1).f0.f3))).setCell ⟨gb205, 4, none⟩ (.int .i64 ((rd_T55 l0 x7_1).f0.f4))).setCell ⟨gb205, 5, none⟩ (.int .i64 ((rd_T55 l0 x7_1).f1))).heap[gb205]? = some (.cells #[.string ((rd_T55 l0 x7_1).f0.f0), .string ((rd_T55 l0 x7_1).f0.f1), .string ((rd_T55 l0 x7_1).f0.f2), .string ((rd_T55 l0 x7_1).f0.f3), .int .i64 ((rd_T55 l0 x7_1).f0.f4), .int .i64 ((rd_T55 l0 x7_1).f1)] 55 (0, 0))) := ⟨by (with_reducible repeat (first | refine blk_drewN ?_ _ | refine blk_drew ?_ | refine blk_alloc ?_ _)); refine blk_put (cs := #[.string ((rd_T55 l0 x7_1).f0.f0), .string ((rd_T55 l0 x7_1).f0.f1), .string ((rd_T55 l0 x7_1).f0.f2), .string ((rd_T55 l0 x7_1).f0.f3), .int .i64 ((rd_T55 l0 x7_1).f0.f4), .int .i64 0]) ?_ 5 _ rfl; (with_reducible repeat (first | refine blk_drewN ?_ _ | refine blk_drew ?_ | refine blk_alloc ?_ _)); refine blk_put (cs := #[.string ((rd_T55 l0 x7_1).f0.f0), .string ((rd_T55 l0 x7_1).f0.f1), .string ((rd_T55 l0 x7_1).f0.f2), .string ((rd_T55 l0 x7_1).f0.f3), .int .i64 0, .int .i64 0]) ?_ 4 _ rfl; (with_reducible repeat (first | refine blk_drewN ?_ _ | refine blk_drew ?_ | refine blk_alloc ?_ _)); refine blk_put (cs := #[.string ((rd_T55 l0 x7_1).f0.f0), .string ((rd_T55 l0 x7_1).f0.f1), .string ((rd_T55 l0 x7_1).f0.f2), .string (⟨#[]⟩ : ByteArray), .int .i64 0, .int .i64 0]) ?_ 3 _ rfl; (with_reducible repeat (first | refine blk_drewN ?_ _ | refine blk_drew ?_ | refine blk_alloc ?_ _)); refine blk_put (cs := #[.string ((rd_T55 l0 x7_1).f0.f0), .string ((rd_T55 l0 x7_1).f0.f1), .string (⟨#[]⟩ : ByteArray), .string (⟨#[]⟩ : ByteArray), .int .i64 0, .int .i64 0]) ?_ 2 _ rfl; (with_reducible repeat (first | refine blk_drewN ?_ _ | refine blk_drew ?_ | refine blk_alloc ?_ _)); refine blk_put (cs := #[.string ((rd_T55 l0 x7_1).f0.f0), .string (⟨#[]⟩ : ByteArray), .string (⟨#[]⟩ : ByteArray), .string (⟨#[]⟩ : ByteArray), .int .i64 0, .int .i64 0]) ?_ 1 _ rfl; (with_reducible repeat (first | refine blk_drewN ?_ _ | refine blk_drew ?_ | refine blk_alloc ?_ _)); refine blk_put (cs := #[.string (⟨#[]⟩ : ByteArray), .string (⟨#[]⟩ : ByteArray), .string (⟨#[]⟩ : ByteArray), .string (⟨#[]⟩ : ByteArray), .int .i64 0, .int .i64 0]) ?_ 0 _ rfl; (with_reducible repeat (first | refine blk_drewN ?_ _ | refine blk_drew ?_ | refine blk_alloc ?_ _)); exact BK205.out⟩
           have n1_ : Aside0 (Below w.heap.size w ((((((w21.setCell ⟨gb205, 0, none⟩ (.string ((rd_T55 l0 x7_1).f0.f0))).setCell ⟨gb205, 1, none⟩ (.string ((rd_T55 l0 x7_1).f0.f1))).setCell ⟨gb205, 2, none⟩ (.string ((rd_T55 l0 x7_1).f0.f2))).setCell ⟨gb205, 3, none⟩ (.string ((rd_T55 l0 x7_1).f0.f3))).setCell ⟨gb205, 4, none⟩ (.int .i64 ((rd_T55 l0 x7_1).f0.f4))).setCell ⟨gb205, 5, none⟩ (.int .i64 ((rd_T55 l0 x7_1).f1)))) := ⟨bx⟩
           (try clear BK205)
           (try clear HB)
           generalize ((((((w21.setCell ⟨gb205, 0, none⟩ (.string ((rd_T55 l0 x7_1).f0.f0))).setCell ⟨gb205, 1, none⟩ (.string ((rd_T55 l0 x7_1).f0.f1))).setCell ⟨gb205, 2, none⟩ (.string ((rd_T55 l0 x7_1).f0.f2))).setCell ⟨gb205, 3, none⟩ (.string ((rd_T55 l0 x7_1).f0.f3))).setCell ⟨gb205, 4, none⟩ (.int .i64 ((rd_T55 l0 x7_1).f0.f4))).setCell ⟨gb205, 5, none⟩ (.int .i64 ((rd_T55 l0 x7_1).f1))) = w23 at n0_ n1_ ⊢
           have BK205 := n0_; have HB := n1_; clear n0_ n1_
           have n0_ := Aside0.mk (blk_drew BK205.out)
           have n1_ := Aside0.mk (below_drew1 HB.out)
           clear BK205 HB; have BK205 := n0_; have HB := n1_; clear n0_ n1_
           have p206 : 0 ≤ ((ji11) : Int) := of_decide_eq_true as_
           have q206 : (ji11) < (l0.length : Int) := of_decide_eq_true as_
           obtain ⟨ad206, e206, hx206_0, hx206_1, hx206_2, hx206_3, hx206_4, hx206_5⟩ := at_T55 HR0.out (ji11) p206 q206
           have hw206_5 := hx206_5; have hw206_4 := hx206_4; have hw206_3 := hx206_3; have hw206_2 := hx206_2; have hw206_1 := hx206_1; have hw206_0 := hx206_0
           obtain rfl : ad204 = ad206 := (by injection e206)
           replace hx206_0 := cb HB hx206_0; replace hx206_1 := cb HB hx206_1; replace hx206_2 := cb HB hx206_2; replace hx206_3 := cb HB hx206_3; replace hx206_4 := cb HB hx206_4; replace hx206_5 := cb HB hx206_5; replace p206 := eq_true p206; replace q206 := eq_true q206
           refine start_ (n := 19) (S := fun w' => w'.cell? ⟨gb205, 0, none⟩ = some (.string ((rd_T55 l0 x7_1).f0.f0)) ∧ w'.cell? ⟨gb205, 1, none⟩ = some (.string ((rd_T55 l0 x7_1).f0.f1)) ∧ w'.cell? ⟨gb205, 2, none⟩ = some (.string ((rd_T55 l0 x7_1).f0.f2)) ∧ w'.cell? ⟨gb205, 3, none⟩ = some (.string ((rd_T55 l0 x7_1).f0.f3)) ∧ w'.cell? ⟨gb205, 4, none⟩ = some (.int .i64 ((rd_T55 l0 x7_1).f0.f4)) ∧ w'.cell? ⟨gb205, 5, none⟩ = some (.int .i64 ((rd_T55 l0 x7_1).f1)) ∧ w'.cell? (ad204.add (((ji11)).toNat * 6)) = some (.string ((rd_T55 l0 (ji11)).f0.f0)) ∧ w'.cell? ⟨(ad204.add (((ji11)).toNat * 6)).block, (ad204.add (((ji11)).toNat * 6)).off + 1, none⟩ = some (.string ((rd_T55 l0 (ji11)).f0.f1)) ∧ w'.cell? ⟨(ad204.add (((ji11)).toNat * 6)).block, (ad204.add (((ji11)).toNat * 6)).off + 2, none⟩ = some (.string ((rd_T55 l0 (ji11)).f0.f2)) ∧ w'.cell? ⟨(ad204.add (((ji11)).toNat * 6)).block, (ad204.add (((ji11)).toNat * 6)).off + 3, none⟩ = some (.string ((rd_T55 l0 (ji11)).f0.f3)) ∧ w'.cell? ⟨(ad204.add (((ji11)).toNat * 6)).block, (ad204.add (((ji11)).toNat * 6)).off + 4, none⟩ = some (.int .i64 ((rd_T55 l0 (ji11)).f0.f4)) ∧ w'.cell? ⟨(ad204.add (((ji11)).toNat * 6)).block, (ad204.add (((ji11)).toNat * 6)).off + 5, none⟩ = some (.int .i64 ((rd_T55 l0 (ji11)).f1))) (ds := []) (fl 19 0) (by kernel_rfl) rfl rfl ⟨(blk_cell BK205.out 0).trans rfl, (blk_cell BK205.out 1).trans rfl, (blk_cell BK205.out 2).trans rfl, (blk_cell BK205.out 3).trans rfl, (blk_cell BK205.out 4).trans rfl, (blk_cell BK205.out 5).trans rfl, (cb HB hw206_0), (cb HB hw206_1), (cb HB hw206_2), (cb HB hw206_3), (cb HB hw206_4), (cb HB hw206_5)⟩ (fun hHeld => ?_); refine with_tabW fact_Right.tab4 fact_Right.bits4 (fun HT_ HW_ => ?_)
           generalize w23.drew = w24 at BK205 HB hx206_0 hx206_1 hx206_2 hx206_3 hx206_4 hx206_5 hHeld ⊢
           refine pu 0 (some 12) (fl 19 1) HT_ ?_
           refine tu 1 (some 13) (fl 19 3) HT_ HW_ hHeld ?_
           refine pu 2 (some 14) (fl 19 7) HT_ ?_
           refine pu 3 (some 15) (fl 19 15) HT_ ?_
           refine pu 4 (some 16) (fl 19 31) HT_ ?_
           refine pu 5 (some 17) (fl 19 63) HT_ ?_
           refine pu 6 (some 18) (fl 19 127) HT_ ?_
           refine pu 7 (some 19) (fl 19 255) HT_ ?_
           refine pu 8 (some 20) (fl 19 511) HT_ ?_
           refine pu 9 (some 21) (fl 19 1023) HT_ ?_
           refine pu 10 (some 22) (fl 19 2047) HT_ ?_
           refine pu 11 (some 23) (fl 19 4095) HT_ ?_
           refine pu 13 (some 25) (fl 19 12287) HT_ ?_
           refine tu 12 (some 24) (fl 19 16383) HT_ HW_ hHeld ?_
           refine tu 14 (some 26) (fl 19 32767) HT_ HW_ hHeld ?_
           refine one_ (i := 15) (N := some 27) (fl 19 65535) rfl rfl (one_of HT_.out (by kernel_rfl)) (by decide) (fun K hK => ?_)
           refine goes_ Try.func23 (by kernel_rfl) rfl #[.agg #[.string ((rd_T55 l0 (ji11)).f0.f0), .string ((rd_T55 l0 (ji11)).f0.f1), .string ((rd_T55 l0 (ji11)).f0.f2), .string ((rd_T55 l0 (ji11)).f0.f3), .int .i64 ((rd_T55 l0 (ji11)).f0.f4)], .agg #[.string ((rd_T55 l0 x7_1).f0.f0), .string ((rd_T55 l0 x7_1).f0.f1), .string ((rd_T55 l0 x7_1).f0.f2), .string ((rd_T55 l0 x7_1).f0.f3), .int .i64 ((rd_T55 l0 x7_1).f0.f4)]] (by rfl) rfl rfl (by (try simp only [List.map_toArray, List.map_cons, List.map_nil]); first | done | (simp only [hji11]; rfl) | rfl | (simp only [List.length_drop, List.length_take]; rfl)) ?_
           with_reducible refine (fact_Cmp.calls k1 ((rd_T55 l0 (ji11)).f0.f0) ((rd_T55 l0 (ji11)).f0.f1) ((rd_T55 l0 (ji11)).f0.f2) ((rd_T55 l0 (ji11)).f0.f3) ((rd_T55 l0 (ji11)).f0.f4) ((rd_T55 l0 x7_1).f0.f0) ((rd_T55 l0 x7_1).f0.f1) ((rd_T55 l0 x7_1).f0.f2) ((rd_T55 l0 x7_1).f0.f3) ((rd_T55 l0 x7_1).f0.f4) t207 _ A14.out).mono ?_
           rintro e w25 ⟨rfl, hb⟩
           refine ⟨_, rfl, ?_⟩
           have n0_ := Aside0.mk (blk_below (g := gb205) (o := .cells #[.string ((rd_T55 l0 x7_1).f0.f0), .string ((rd_T55 l0 x7_1).f0.f1), .string ((rd_T55 l0 x7_1).f0.f2), .string ((rd_T55 l0 x7_1).f0.f3), .int .i64 ((rd_T55 l0 x7_1).f0.f4), .int .i64 ((rd_T55 l0 x7_1).f1)] 55 (0, 0)) (by (with_reducible repeat (first | refine blk_drewN ?_ _ | refine blk_drew ?_ | refine blk_alloc ?_ _)); exact BK205.out) hb)
           have n1_ := Aside0.mk (below_step bx hb)
           clear BK205 HB; have BK205 := n0_; have HB := n1_; clear n0_ n1_
           (try clear hb)
           (try clear hb2)
           (try clear hk)
           (try clear hi)
           refine hK.out _ _ ⟨(blk_cell BK205.out 0).trans rfl, (blk_cell BK205.out 1).trans rfl, (blk_cell BK205.out 2).trans rfl, (blk_cell BK205.out 3).trans rfl, (blk_cell BK205.out 4).trans rfl, (blk_cell BK205.out 5).trans rfl, (cb HB hw206_0), (cb HB hw206_1), (cb HB hw206_2), (cb HB hw206_3), (cb HB hw206_4), (cb HB hw206_5)⟩ (fun hHeld => ?_)
           clear hK K
           refine norm_ (a' := ?_) ?_ ?_
           rotate_left
           ·show Act.put _ (some 27) _ = _
            simp only [Act.put, List.setIfInBounds_toArray, List.set_cons_zero, List.set_cons_succ, i64_w, i32_w]
            rfl
           refine pu 16 (some 28) (fl 19 131071) HT_ ?_
           refine pu 17 (some 29) (fl 19 262143) HT_ ?_
           refine pu 18 (some 30) (fl 19 524287) HT_ ?_
           refine done_ (done_of HT_.out (by kernel_rfl)) ?_
           try go_wp2
           go_roundg k1
           case measure => have := HK1.out; omega
           case rel => exact ⟨(wrap64 (x7_1 + 1)), rs_, H', ⟨by have := HK1.out; omega⟩, ⟨bx⟩⟩
         ·rw [if_neg c13] at H
          exact absurd H (by simp)
        ·rw [if_neg c12] at H
         exact absurd H (by simp)
       ·rw [if_neg c10] at H
        have c10b0 : decide (0 < x7_1) = false := decide_eq_false c10
        clear c10
        have H' := Aside0.mk H
        clear H
        have p204 : 0 ≤ (x7_1 : Int) := of_decide_eq_true as_
        have q204 : x7_1 < (l0.length : Int) := of_decide_eq_true as_
        obtain ⟨ad204, e204, hx204_0, hx204_1, hx204_2, hx204_3, hx204_4, hx204_5⟩ := at_T55 HR0.out x7_1 p204 q204
        cases e204; replace hx204_0 := cb HB hx204_0; replace hx204_1 := cb HB hx204_1; replace hx204_2 := cb HB hx204_2; replace hx204_3 := cb HB hx204_3; replace hx204_4 := cb HB hx204_4; replace hx204_5 := cb HB hx204_5; replace p204 := eq_true p204; replace q204 := eq_true q204
        try go_wp2_with (first | ((with_reducible refine gate_dst (N := 4) rfl ?_); refine box_event ?hg (N := 4) ?hd (cs := #[.string (⟨#[]⟩ : ByteArray), .string (⟨#[]⟩ : ByteArray), .string (⟨#[]⟩ : ByteArray), .string (⟨#[]⟩ : ByteArray), .int .i64 0, .int .i64 0]) (t := 55) ?hr ?_; (case hd => rfl); (case hg => rfl); (case hr => first | (go_simp; done) | (go_simp; rfl)); intro gb205 hg w26 hbox hb; have n0_ := Aside0.mk (below_step bw hb); have n1_ := Aside0.mk (hbox); have n2_ := Aside0.mk ((by rw [hg]; exact (below_size bw) : w.heap.size ≤ gb205)); have n3_ := Aside0.mk ((by rw [hg]; exact (below_size bw) : w.heap.size ≤ gb205)); clear HB; have HB := n0_; have BK205 := n1_; have GW205 := n2_; have GE205 := n3_; clear n0_ n1_ n2_ n3_; clear hb hbox hg; obtain ⟨hcz27_0, hcz27_1, hcz27_2, hcz27_3, hcz27_4, hcz27_5⟩ := bc6 BK205.out; have hfz27_0 := blk_frozen BK205.out 0; have hfz27_1 := blk_frozen BK205.out 1; have hfz27_2 := blk_frozen BK205.out 2; have hfz27_3 := blk_frozen BK205.out 3; have hfz27_4 := blk_frozen BK205.out 4; have hfz27_5 := blk_frozen BK205.out 5))
        have n0_ : Aside0 (((((((w26.setCell ⟨gb205, 0, none⟩ (.string ((rd_T55 l0 x7_1).f0.f0))).setCell ⟨gb205, 1, none⟩ (.string ((rd_T55 l0 x7_1).f0.f1))).setCell ⟨gb205, 2, none⟩ (.string ((rd_T55 l0 x7_1).f0.f2))).setCell ⟨gb205, 3, none⟩ (.string ((rd_T55 l0 x7_1).f0.f3))).setCell ⟨gb205, 4, none⟩ (.int .i64 ((rd_T55 l0 x7_1).f0.f4))).setCell ⟨gb205, 5, none⟩ (.int .i64 ((rd_T55 l0 x7_1).f1))).heap[gb205]? = some (.cells #[.string ((rd_T55 l0 x7_1).f0.f0), .string ((rd_T55 l0 x7_1).f0.f1), .string ((rd_T55 l0 x7_1).f0.f2), .string ((rd_T55 l0 x7_1).f0.f3), .int .i64 ((rd_T55 l0 x7_1).f0.f4), .int .i64 ((rd_T55 l0 x7_1).f1)] 55 (0, 0))) := ⟨by (with_reducible repeat (first | refine blk_drewN ?_ _ | refine blk_drew ?_ | refine blk_alloc ?_ _)); refine blk_put (cs := #[.string ((rd_T55 l0 x7_1).f0.f0), .string ((rd_T55 l0 x7_1).f0.f1), .string ((rd_T55 l0 x7_1).f0.f2), .string ((rd_T55 l0 x7_1).f0.f3), .int .i64 ((rd_T55 l0 x7_1).f0.f4), .int .i64 0]) ?_ 5 _ rfl; (with_reducible repeat (first | refine blk_drewN ?_ _ | refine blk_drew ?_ | refine blk_alloc ?_ _)); refine blk_put (cs := #[.string ((rd_T55 l0 x7_1).f0.f0), .string ((rd_T55 l0 x7_1).f0.f1), .string ((rd_T55 l0 x7_1).f0.f2), .string ((rd_T55 l0 x7_1).f0.f3), .int .i64 0, .int .i64 0]) ?_ 4 _ rfl; (with_reducible repeat (first | refine blk_drewN ?_ _ | refine blk_drew ?_ | refine blk_alloc ?_ _)); refine blk_put (cs := #[.string ((rd_T55 l0 x7_1).f0.f0), .string ((rd_T55 l0 x7_1).f0.f1), .string ((rd_T55 l0 x7_1).f0.f2), .string (⟨#[]⟩ : ByteArray), .int .i64 0, .int .i64 0]) ?_ 3 _ rfl; (with_reducible repeat (first | refine blk_drewN ?_ _ | refine blk_drew ?_ | refine blk_alloc ?_ _)); refine blk_put (cs := #[.string ((rd_T55 l0 x7_1).f0.f0), .string ((rd_T55 l0 x7_1).f0.f1), .string (⟨#[]⟩ : ByteArray), .string (⟨#[]⟩ : ByteArray), .int .i64 0, .int .i64 0]) ?_ 2 _ rfl; (with_reducible repeat (first | refine blk_drewN ?_ _ | refine blk_drew ?_ | refine blk_alloc ?_ _)); refine blk_put (cs := #[.string ((rd_T55 l0 x7_1).f0.f0), .string (⟨#[]⟩ : ByteArray), .string (⟨#[]⟩ : ByteArray), .string (⟨#[]⟩ : ByteArray), .int .i64 0, .int .i64 0]) ?_ 1 _ rfl; (with_reducible repeat (first | refine blk_drewN ?_ _ | refine blk_drew ?_ | refine blk_alloc ?_ _)); refine blk_put (cs := #[.string (⟨#[]⟩ : ByteArray), .string (⟨#[]⟩ : ByteArray), .string (⟨#[]⟩ : ByteArray), .string (⟨#[]⟩ : ByteArray), .int .i64 0, .int .i64 0]) ?_ 0 _ rfl; (with_reducible repeat (first | refine blk_drewN ?_ _ | refine blk_drew ?_ | refine blk_alloc ?_ _)); exact BK205.out⟩
        have n1_ : Aside0 (Below w.heap.size w ((((((w26.setCell ⟨gb205, 0, none⟩ (.string ((rd_T55 l0 x7_1).f0.f0))).setCell ⟨gb205, 1, none⟩ (.string ((rd_T55 l0 x7_1).f0.f1))).setCell ⟨gb205, 2, none⟩ (.string ((rd_T55 l0 x7_1).f0.f2))).setCell ⟨gb205, 3, none⟩ (.string ((rd_T55 l0 x7_1).f0.f3))).setCell ⟨gb205, 4, none⟩ (.int .i64 ((rd_T55 l0 x7_1).f0.f4))).setCell ⟨gb205, 5, none⟩ (.int .i64 ((rd_T55 l0 x7_1).f1)))) := ⟨bx⟩
        (try clear BK205)
        (try clear HB)
        generalize ((((((w26.setCell ⟨gb205, 0, none⟩ (.string ((rd_T55 l0 x7_1).f0.f0))).setCell ⟨gb205, 1, none⟩ (.string ((rd_T55 l0 x7_1).f0.f1))).setCell ⟨gb205, 2, none⟩ (.string ((rd_T55 l0 x7_1).f0.f2))).setCell ⟨gb205, 3, none⟩ (.string ((rd_T55 l0 x7_1).f0.f3))).setCell ⟨gb205, 4, none⟩ (.int .i64 ((rd_T55 l0 x7_1).f0.f4))).setCell ⟨gb205, 5, none⟩ (.int .i64 ((rd_T55 l0 x7_1).f1))) = w28 at n0_ n1_ ⊢
        have BK205 := n0_; have HB := n1_; clear n0_ n1_
        have n0_ := Aside0.mk (blk_drew BK205.out)
        have n1_ := Aside0.mk (below_drew1 HB.out)
        clear BK205 HB; have BK205 := n0_; have HB := n1_; clear n0_ n1_
        refine start_ (n := 19) (S := fun w' => w'.cell? ⟨gb205, 0, none⟩ = some (.string ((rd_T55 l0 x7_1).f0.f0)) ∧ w'.cell? ⟨gb205, 1, none⟩ = some (.string ((rd_T55 l0 x7_1).f0.f1)) ∧ w'.cell? ⟨gb205, 2, none⟩ = some (.string ((rd_T55 l0 x7_1).f0.f2)) ∧ w'.cell? ⟨gb205, 3, none⟩ = some (.string ((rd_T55 l0 x7_1).f0.f3)) ∧ w'.cell? ⟨gb205, 4, none⟩ = some (.int .i64 ((rd_T55 l0 x7_1).f0.f4)) ∧ w'.cell? ⟨gb205, 5, none⟩ = some (.int .i64 ((rd_T55 l0 x7_1).f1))) (ds := []) (fl 19 0) (by kernel_rfl) rfl rfl ⟨(blk_cell BK205.out 0).trans rfl, (blk_cell BK205.out 1).trans rfl, (blk_cell BK205.out 2).trans rfl, (blk_cell BK205.out 3).trans rfl, (blk_cell BK205.out 4).trans rfl, (blk_cell BK205.out 5).trans rfl⟩ (fun hHeld => ?_); refine with_tabW fact_Right.tab4 fact_Right.bits4 (fun HT_ HW_ => ?_)
        generalize w28.drew = w29 at BK205 HB hHeld ⊢
        refine pu 0 (some 12) (fl 19 1) HT_ ?_
        refine tu 1 (some 13) (fl 19 3) HT_ HW_ hHeld ?_
        refine pu 2 (some 14) (fl 19 7) HT_ ?_
        refine pu 3 (some 15) (fl 19 15) HT_ ?_
        refine pu 4 (some 16) (fl 19 31) HT_ ?_
        refine pu 5 (some 17) (fl 19 63) HT_ ?_
        refine pu 6 (some 18) (fl 19 127) HT_ ?_
        refine pure_ (i := 7) (N := some 19) (v := undef) (a' := ?_) (fl 19 255) rfl rfl (any_of HT_.out (by kernel_rfl)) (fun _ _ _ h => h) (Or.inr ⟨by rfl, rfl⟩) ?_ ?_
        rotate_left
        ·simp only [Act.put, List.setIfInBounds_toArray, List.set_cons_zero, List.set_cons_succ, i64_w, i32_w]
         rfl
        refine pure_ (i := 8) (N := some 20) (v := undef) (a' := ?_) (fl 19 511) rfl rfl (any_of HT_.out (by kernel_rfl)) (fun _ _ _ h => h) (Or.inr ⟨by rfl, rfl⟩) ?_ ?_
        rotate_left
        ·simp only [Act.put, List.setIfInBounds_toArray, List.set_cons_zero, List.set_cons_succ, i64_w, i32_w]
         rfl
        refine pure_ (i := 9) (N := some 21) (v := undef) (a' := ?_) (fl 19 1023) rfl rfl (any_of HT_.out (by kernel_rfl)) (fun _ _ _ h => h) (Or.inr ⟨by rfl, rfl⟩) ?_ ?_
        rotate_left
        ·simp only [Act.put, List.setIfInBounds_toArray, List.set_cons_zero, List.set_cons_succ, i64_w, i32_w]
         rfl
        refine pure_ (i := 10) (N := some 22) (v := undef) (a' := ?_) (fl 19 2047) rfl rfl (any_of HT_.out (by kernel_rfl)) (fun _ _ _ h => h) (Or.inr ⟨by rfl, rfl⟩) ?_ ?_
        rotate_left
        ·simp only [Act.put, List.setIfInBounds_toArray, List.set_cons_zero, List.set_cons_succ, i64_w, i32_w]
         rfl
        refine pure_ (i := 11) (N := some 23) (v := undef) (a' := ?_) (fl 19 4095) rfl rfl (any_of HT_.out (by kernel_rfl)) (fun _ _ _ h => h) (Or.inr ⟨by rfl, rfl⟩) ?_ ?_
        rotate_left
        ·simp only [Act.put, List.setIfInBounds_toArray, List.set_cons_zero, List.set_cons_succ, i64_w, i32_w]
         rfl
        refine pure_ (i := 12) (N := some 24) (v := undef) (a' := ?_) (fl 19 8191) rfl rfl (any_of HT_.out (by kernel_rfl)) (fun _ _ _ h => h) (Or.inr ⟨by rfl, rfl⟩) ?_ ?_
        rotate_left
        ·simp only [Act.put, List.setIfInBounds_toArray, List.set_cons_zero, List.set_cons_succ, i64_w, i32_w]
         rfl
        refine pure_ (i := 13) (N := some 25) (v := undef) (a' := ?_) (fl 19 16383) rfl rfl (any_of HT_.out (by kernel_rfl)) (fun _ _ _ h => h) (Or.inr ⟨by rfl, rfl⟩) ?_ ?_
        rotate_left
        ·simp only [Act.put, List.setIfInBounds_toArray, List.set_cons_zero, List.set_cons_succ, i64_w, i32_w]
         rfl
        refine pure_ (i := 14) (N := some 26) (v := undef) (a' := ?_) (fl 19 32767) rfl rfl (any_of HT_.out (by kernel_rfl)) (fun _ _ _ h => h) (Or.inr ⟨by rfl, rfl⟩) ?_ ?_
        rotate_left
        ·simp only [Act.put, List.setIfInBounds_toArray, List.set_cons_zero, List.set_cons_succ, i64_w, i32_w]
         rfl
        refine pure_ (i := 15) (N := some 27) (v := undef) (a' := ?_) (fl 19 65535) rfl rfl (any_of HT_.out (by kernel_rfl)) (fun _ _ _ h => h) (Or.inr ⟨by rfl, rfl⟩) ?_ ?_
        rotate_left
        ·simp only [Act.put, List.setIfInBounds_toArray, List.set_cons_zero, List.set_cons_succ, i64_w, i32_w]
         rfl
        refine pure_ (i := 16) (N := some 28) (v := undef) (a' := ?_) (fl 19 131071) rfl rfl (any_of HT_.out (by kernel_rfl)) (fun _ _ _ h => h) (Or.inr ⟨by rfl, rfl⟩) ?_ ?_
        rotate_left
        ·simp only [Act.put, List.setIfInBounds_toArray, List.set_cons_zero, List.set_cons_succ, i64_w, i32_w]
         rfl
        refine pu 17 (some 29) (fl 19 262143) HT_ ?_
        refine pu 18 (some 30) (fl 19 524287) HT_ ?_
        refine done_ (done_of HT_.out (by kernel_rfl)) ?_
        try go_wp2
        go_roundg k1
        case measure => have := HK1.out; omega
        case rel => exact ⟨(wrap64 (x7_1 + 1)), rs_, H', ⟨by have := HK1.out; omega⟩, ⟨bx⟩⟩
     ·rw [if_neg c4] at H
      exact absurd H (by simp)
    ·rw [if_neg c3] at H
     exact absurd H (by simp)
   ·rw [if_neg c2] at H
    have c2b0 : decide (x7_1 < (l0.length : Int)) = false := decide_eq_false c2
    clear c2
    obtain rfl := Option.some.inj H
    go_wp2; go_ret
    exact ⟨re_, bw⟩
/-! ### comptrollerlaw09_alive: function 6 -/
def comptrollerlaw09_alive.f (k : Nat)  : Option (Bool) := (fact_Of.f k (([(⟨(⟨(⟨#[69]⟩ : ByteArray), (⟨#[98]⟩ : ByteArray), (⟨#[]⟩ : ByteArray), (⟨#[]⟩ : ByteArray), 0⟩ : S44), 5⟩ : S55), (⟨(⟨(⟨#[69]⟩ : ByteArray), (⟨#[97]⟩ : ByteArray), (⟨#[]⟩ : ByteArray), (⟨#[]⟩ : ByteArray), 0⟩ : S44), 1⟩ : S55), (⟨(⟨(⟨#[69]⟩ : ByteArray), (⟨#[97]⟩ : ByteArray), (⟨#[]⟩ : ByteArray), (⟨#[]⟩ : ByteArray), 0⟩ : S44), 2⟩ : S55)] : List (S55)))).bind fun bt213 => ((fact_Sum.f k bt213.1 (⟨#[]⟩ : ByteArray) (⟨#[]⟩ : ByteArray) (⟨#[]⟩ : ByteArray)).bind fun bt217 => ((fact_Add.f k bt213.1 (([(⟨(⟨(⟨#[69]⟩ : ByteArray), (⟨#[98]⟩ : ByteArray), (⟨#[]⟩ : ByteArray), (⟨#[]⟩ : ByteArray), 0⟩ : S44), (-5)⟩ : S55)] : List (S55)))).bind fun bt222 => (if bt213.2 = 0 then (if (bt213.1.length : Int) = 2 then (if 0 < (bt213.1.length : Int) then (if ((rd_T55 bt213.1 0).f1) = 3 then (if bt217.1 = 8 then (if bt217.2 = 0 then (if bt222.2 = 0 then (if (bt222.1.length : Int) = 1 then ((fact_Get.f k bt213.1 (⟨#[69]⟩ : ByteArray) (⟨#[98]⟩ : ByteArray) (⟨#[]⟩ : ByteArray) (⟨#[]⟩ : ByteArray) 0).bind fun t227 => (if t227 = 5 then ((fact_Cmp.f k (⟨#[69]⟩ : ByteArray) (⟨#[97]⟩ : ByteArray) (⟨#[]⟩ : ByteArray) (⟨#[]⟩ : ByteArray) 0 (⟨#[69]⟩ : ByteArray) (⟨#[98]⟩ : ByteArray) (⟨#[]⟩ : ByteArray) (⟨#[]⟩ : ByteArray) 0).bind fun t228 => (if t228 = (-1) then ((fact_Right.f k bt213.1).bind fun t229 => (if t229 = true then ((fact_Pick.f k bt213.1 (⟨#[69]⟩ : ByteArray) 0).bind fun t230 => (some ((t230.length : Int) == 2))) else (none))) else (none))) else (none))) else (none)) else (none)) else (none)) else (none)) else (none)) else (none)) else (none)) else (none))))
theorem comptrollerlaw09_alive.mono : ∀ k, LeO (comptrollerlaw09_alive.f k ) (comptrollerlaw09_alive.f (k + 1) ) := by
 intro  k
 unfold comptrollerlaw09_alive.f
 with_reducible repeat' first | apply fact_Add.mono | apply fact_Cmp.mono | apply fact_Get.mono | apply fact_Of.mono | apply fact_Pick.mono | apply fact_Right.mono | apply fact_Sum.mono | refine LeO.refl _ | refine LeO.none _ | refine LeO.ite ?_ ?_ | refine LeO.bind ?_ (fun _ => ?_)
set_option maxHeartbeats 8000000 in
set_option maxRecDepth 100000 in
theorem comptrollerlaw09_alive.calls (k : Nat)  (r : Bool) (w : World) (h : comptrollerlaw09_alive.f k  = some r) :
  Calls Try.prog 6 #[] w fun e w' => e = .returned (.bool r) ∧ Below w.heap.size w w' := by
 have hu44 := Try.underlying44; have hu55 := Try.underlying55
 have HB := Aside0.mk (Below.refl w.heap.size w)
 have H : ((fact_Of.f k (([(⟨(⟨(⟨#[69]⟩ : ByteArray), (⟨#[98]⟩ : ByteArray), (⟨#[]⟩ : ByteArray), (⟨#[]⟩ : ByteArray), 0⟩ : S44), 5⟩ : S55), (⟨(⟨(⟨#[69]⟩ : ByteArray), (⟨#[97]⟩ : ByteArray), (⟨#[]⟩ : ByteArray), (⟨#[]⟩ : ByteArray), 0⟩ : S44), 1⟩ : S55), (⟨(⟨(⟨#[69]⟩ : ByteArray), (⟨#[97]⟩ : ByteArray), (⟨#[]⟩ : ByteArray), (⟨#[]⟩ : ByteArray), 0⟩ : S44), 2⟩ : S55)] : List (S55)))).bind fun bt213 => ((fact_Sum.f k bt213.1 (⟨#[]⟩ : ByteArray) (⟨#[]⟩ : ByteArray) (⟨#[]⟩ : ByteArray)).bind fun bt217 => ((fact_Add.f k bt213.1 (([(⟨(⟨(⟨#[69]⟩ : ByteArray), (⟨#[98]⟩ : ByteArray), (⟨#[]⟩ : ByteArray), (⟨#[]⟩ : ByteArray), 0⟩ : S44), (-5)⟩ : S55)] : List (S55)))).bind fun bt222 => (if bt213.2 = 0 then (if (bt213.1.length : Int) = 2 then (if 0 < (bt213.1.length : Int) then (if ((rd_T55 bt213.1 0).f1) = 3 then (if bt217.1 = 8 then (if bt217.2 = 0 then (if bt222.2 = 0 then (if (bt222.1.length : Int) = 1 then ((fact_Get.f k bt213.1 (⟨#[69]⟩ : ByteArray) (⟨#[98]⟩ : ByteArray) (⟨#[]⟩ : ByteArray) (⟨#[]⟩ : ByteArray) 0).bind fun t227 => (if t227 = 5 then ((fact_Cmp.f k (⟨#[69]⟩ : ByteArray) (⟨#[97]⟩ : ByteArray) (⟨#[]⟩ : ByteArray) (⟨#[]⟩ : ByteArray) 0 (⟨#[69]⟩ : ByteArray) (⟨#[98]⟩ : ByteArray) (⟨#[]⟩ : ByteArray) (⟨#[]⟩ : ByteArray) 0).bind fun t228 => (if t228 = (-1) then ((fact_Right.f k bt213.1).bind fun t229 => (if t229 = true then ((fact_Pick.f k bt213.1 (⟨#[69]⟩ : ByteArray) 0).bind fun t230 => (some ((t230.length : Int) == 2))) else (none))) else (none))) else (none))) else (none)) else (none)) else (none)) else (none)) else (none)) else (none)) else (none)) else (none))))) = some r := h
 clear h
 obtain ⟨y210, hy210⟩ : ∃ y_ : List (S55), y_ = (([(⟨(⟨(⟨#[69]⟩ : ByteArray), (⟨#[98]⟩ : ByteArray), (⟨#[]⟩ : ByteArray), (⟨#[]⟩ : ByteArray), 0⟩ : S44), 5⟩ : S55), (⟨(⟨(⟨#[69]⟩ : ByteArray), (⟨#[97]⟩ : ByteArray), (⟨#[]⟩ : ByteArray), (⟨#[]⟩ : ByteArray), 0⟩ : S44), 1⟩ : S55), (⟨(⟨(⟨#[69]⟩ : ByteArray), (⟨#[97]⟩ : ByteArray), (⟨#[]⟩ : ByteArray), (⟨#[]⟩ : ByteArray), 0⟩ : S44), 2⟩ : S55)] : List (S55))) := ⟨_, rfl⟩
 replace H : ((fact_Of.f k y210).bind fun bt213 => ((fact_Sum.f k bt213.1 (⟨#[]⟩ : ByteArray) (⟨#[]⟩ : ByteArray) (⟨#[]⟩ : ByteArray)).bind fun bt217 => ((fact_Add.f k bt213.1 (([(⟨(⟨(⟨#[69]⟩ : ByteArray), (⟨#[98]⟩ : ByteArray), (⟨#[]⟩ : ByteArray), (⟨#[]⟩ : ByteArray), 0⟩ : S44), (-5)⟩ : S55)] : List (S55)))).bind fun bt222 => (if bt213.2 = 0 then (if (bt213.1.length : Int) = 2 then (if 0 < (bt213.1.length : Int) then (if ((rd_T55 bt213.1 0).f1) = 3 then (if bt217.1 = 8 then (if bt217.2 = 0 then (if bt222.2 = 0 then (if (bt222.1.length : Int) = 1 then ((fact_Get.f k bt213.1 (⟨#[69]⟩ : ByteArray) (⟨#[98]⟩ : ByteArray) (⟨#[]⟩ : ByteArray) (⟨#[]⟩ : ByteArray) 0).bind fun t227 => (if t227 = 5 then ((fact_Cmp.f k (⟨#[69]⟩ : ByteArray) (⟨#[97]⟩ : ByteArray) (⟨#[]⟩ : ByteArray) (⟨#[]⟩ : ByteArray) 0 (⟨#[69]⟩ : ByteArray) (⟨#[98]⟩ : ByteArray) (⟨#[]⟩ : ByteArray) (⟨#[]⟩ : ByteArray) 0).bind fun t228 => (if t228 = (-1) then ((fact_Right.f k bt213.1).bind fun t229 => (if t229 = true then ((fact_Pick.f k bt213.1 (⟨#[69]⟩ : ByteArray) 0).bind fun t230 => (some ((t230.length : Int) == 2))) else (none))) else (none))) else (none))) else (none)) else (none)) else (none)) else (none)) else (none)) else (none)) else (none)) else (none))))) = some r := rh hy210 H
 have Ny210 := Aside0.mk hy210; clear hy210
 replace H := Option.bind_eq_some_iff.mp H
 obtain ⟨⟨t213, t214⟩, A10, H⟩ := H
 replace H : ((fact_Sum.f k t213 (⟨#[]⟩ : ByteArray) (⟨#[]⟩ : ByteArray) (⟨#[]⟩ : ByteArray)).bind fun bt217 => ((fact_Add.f k t213 (([(⟨(⟨(⟨#[69]⟩ : ByteArray), (⟨#[98]⟩ : ByteArray), (⟨#[]⟩ : ByteArray), (⟨#[]⟩ : ByteArray), 0⟩ : S44), (-5)⟩ : S55)] : List (S55)))).bind fun bt222 => (if t214 = 0 then (if (t213.length : Int) = 2 then (if 0 < (t213.length : Int) then (if ((rd_T55 t213 0).f1) = 3 then (if bt217.1 = 8 then (if bt217.2 = 0 then (if bt222.2 = 0 then (if (bt222.1.length : Int) = 1 then ((fact_Get.f k t213 (⟨#[69]⟩ : ByteArray) (⟨#[98]⟩ : ByteArray) (⟨#[]⟩ : ByteArray) (⟨#[]⟩ : ByteArray) 0).bind fun t227 => (if t227 = 5 then ((fact_Cmp.f k (⟨#[69]⟩ : ByteArray) (⟨#[97]⟩ : ByteArray) (⟨#[]⟩ : ByteArray) (⟨#[]⟩ : ByteArray) 0 (⟨#[69]⟩ : ByteArray) (⟨#[98]⟩ : ByteArray) (⟨#[]⟩ : ByteArray) (⟨#[]⟩ : ByteArray) 0).bind fun t228 => (if t228 = (-1) then ((fact_Right.f k t213).bind fun t229 => (if t229 = true then ((fact_Pick.f k t213 (⟨#[69]⟩ : ByteArray) 0).bind fun t230 => (some ((t230.length : Int) == 2))) else (none))) else (none))) else (none))) else (none)) else (none)) else (none)) else (none)) else (none)) else (none)) else (none)) else (none)))) = some r := H
 have A1 := Aside0.mk A10; clear A10
 replace H := Option.bind_eq_some_iff.mp H
 obtain ⟨⟨t217, t218⟩, A20, H⟩ := H
 replace H : ((fact_Add.f k t213 (([(⟨(⟨(⟨#[69]⟩ : ByteArray), (⟨#[98]⟩ : ByteArray), (⟨#[]⟩ : ByteArray), (⟨#[]⟩ : ByteArray), 0⟩ : S44), (-5)⟩ : S55)] : List (S55)))).bind fun bt222 => (if t214 = 0 then (if (t213.length : Int) = 2 then (if 0 < (t213.length : Int) then (if ((rd_T55 t213 0).f1) = 3 then (if t217 = 8 then (if t218 = 0 then (if bt222.2 = 0 then (if (bt222.1.length : Int) = 1 then ((fact_Get.f k t213 (⟨#[69]⟩ : ByteArray) (⟨#[98]⟩ : ByteArray) (⟨#[]⟩ : ByteArray) (⟨#[]⟩ : ByteArray) 0).bind fun t227 => (if t227 = 5 then ((fact_Cmp.f k (⟨#[69]⟩ : ByteArray) (⟨#[97]⟩ : ByteArray) (⟨#[]⟩ : ByteArray) (⟨#[]⟩ : ByteArray) 0 (⟨#[69]⟩ : ByteArray) (⟨#[98]⟩ : ByteArray) (⟨#[]⟩ : ByteArray) (⟨#[]⟩ : ByteArray) 0).bind fun t228 => (if t228 = (-1) then ((fact_Right.f k t213).bind fun t229 => (if t229 = true then ((fact_Pick.f k t213 (⟨#[69]⟩ : ByteArray) 0).bind fun t230 => (some ((t230.length : Int) == 2))) else (none))) else (none))) else (none))) else (none)) else (none)) else (none)) else (none)) else (none)) else (none)) else (none)) else (none))) = some r := H
 have A2 := Aside0.mk A20; clear A20
 obtain ⟨y219, hy219⟩ : ∃ y_ : List (S55), y_ = (([(⟨(⟨(⟨#[69]⟩ : ByteArray), (⟨#[98]⟩ : ByteArray), (⟨#[]⟩ : ByteArray), (⟨#[]⟩ : ByteArray), 0⟩ : S44), (-5)⟩ : S55)] : List (S55))) := ⟨_, rfl⟩
 replace H : ((fact_Add.f k t213 y219).bind fun bt222 => (if t214 = 0 then (if (t213.length : Int) = 2 then (if 0 < (t213.length : Int) then (if ((rd_T55 t213 0).f1) = 3 then (if t217 = 8 then (if t218 = 0 then (if bt222.2 = 0 then (if (bt222.1.length : Int) = 1 then ((fact_Get.f k t213 (⟨#[69]⟩ : ByteArray) (⟨#[98]⟩ : ByteArray) (⟨#[]⟩ : ByteArray) (⟨#[]⟩ : ByteArray) 0).bind fun t227 => (if t227 = 5 then ((fact_Cmp.f k (⟨#[69]⟩ : ByteArray) (⟨#[97]⟩ : ByteArray) (⟨#[]⟩ : ByteArray) (⟨#[]⟩ : ByteArray) 0 (⟨#[69]⟩ : ByteArray) (⟨#[98]⟩ : ByteArray) (⟨#[]⟩ : ByteArray) (⟨#[]⟩ : ByteArray) 0).bind fun t228 => (if t228 = (-1) then ((fact_Right.f k t213).bind fun t229 => (if t229 = true then ((fact_Pick.f k t213 (⟨#[69]⟩ : ByteArray) 0).bind fun t230 => (some ((t230.length : Int) == 2))) else (none))) else (none))) else (none))) else (none)) else (none)) else (none)) else (none)) else (none)) else (none)) else (none)) else (none))) = some r := rh hy219 H
 have Ny219 := Aside0.mk hy219; clear hy219
 replace H := Option.bind_eq_some_iff.mp H
 obtain ⟨⟨t222, t225⟩, A30, H⟩ := H
 replace H : (if t214 = 0 then (if (t213.length : Int) = 2 then (if 0 < (t213.length : Int) then (if ((rd_T55 t213 0).f1) = 3 then (if t217 = 8 then (if t218 = 0 then (if t225 = 0 then (if (t222.length : Int) = 1 then ((fact_Get.f k t213 (⟨#[69]⟩ : ByteArray) (⟨#[98]⟩ : ByteArray) (⟨#[]⟩ : ByteArray) (⟨#[]⟩ : ByteArray) 0).bind fun t227 => (if t227 = 5 then ((fact_Cmp.f k (⟨#[69]⟩ : ByteArray) (⟨#[97]⟩ : ByteArray) (⟨#[]⟩ : ByteArray) (⟨#[]⟩ : ByteArray) 0 (⟨#[69]⟩ : ByteArray) (⟨#[98]⟩ : ByteArray) (⟨#[]⟩ : ByteArray) (⟨#[]⟩ : ByteArray) 0).bind fun t228 => (if t228 = (-1) then ((fact_Right.f k t213).bind fun t229 => (if t229 = true then ((fact_Pick.f k t213 (⟨#[69]⟩ : ByteArray) 0).bind fun t230 => (some ((t230.length : Int) == 2))) else (none))) else (none))) else (none))) else (none)) else (none)) else (none)) else (none)) else (none)) else (none)) else (none)) else (none)) = some r := H
 have A3 := Aside0.mk A30; clear A30
 by_cases c4 : t214 = 0
 ·rw [if_pos c4] at H
  have c4b0 : (t214 == 0) = true := beq_iff_eq.mpr c4
  have c4b1 : (t214 != 0) = false := bne_eq_false_iff_eq.mpr c4
  clear c4
  by_cases c5 : (t213.length : Int) = 2
  ·rw [if_pos c5] at H
   have c5b0 : ((t213.length : Int) == 2) = true := beq_iff_eq.mpr c5
   have c5b1 : ((t213.length : Int) != 2) = false := bne_eq_false_iff_eq.mpr c5
   clear c5
   by_cases c6 : 0 < (t213.length : Int)
   ·rw [if_pos c6] at H
    have c6b0 : decide (0 < (t213.length : Int)) = true := decide_eq_true c6
    have c6b1 : decide (0 < t213.length) = true := decide_eq_true (by omega)
    clear c6
    by_cases c7 : ((rd_T55 t213 0).f1) = 3
    ·rw [if_pos c7] at H
     have c7b0 : (((rd_T55 t213 0).f1) == 3) = true := beq_iff_eq.mpr c7
     have c7b1 : (((rd_T55 t213 0).f1) != 3) = false := bne_eq_false_iff_eq.mpr c7
     clear c7
     by_cases c8 : t217 = 8
     ·rw [if_pos c8] at H
      have c8b0 : (t217 == 8) = true := beq_iff_eq.mpr c8
      have c8b1 : (t217 != 8) = false := bne_eq_false_iff_eq.mpr c8
      clear c8
      by_cases c9 : t218 = 0
      ·rw [if_pos c9] at H
       have c9b0 : (t218 == 0) = true := beq_iff_eq.mpr c9
       have c9b1 : (t218 != 0) = false := bne_eq_false_iff_eq.mpr c9
       clear c9
       by_cases c10 : t225 = 0
       ·rw [if_pos c10] at H
        have c10b0 : (t225 == 0) = true := beq_iff_eq.mpr c10
        have c10b1 : (t225 != 0) = false := bne_eq_false_iff_eq.mpr c10
        clear c10
        by_cases c11 : (t222.length : Int) = 1
        ·rw [if_pos c11] at H
         have c11b0 : ((t222.length : Int) == 1) = true := beq_iff_eq.mpr c11
         have c11b1 : ((t222.length : Int) != 1) = false := bne_eq_false_iff_eq.mpr c11
         clear c11
         replace H := Option.bind_eq_some_iff.mp H
         obtain ⟨t227, A120, H⟩ := H
         replace H : (if t227 = 5 then ((fact_Cmp.f k (⟨#[69]⟩ : ByteArray) (⟨#[97]⟩ : ByteArray) (⟨#[]⟩ : ByteArray) (⟨#[]⟩ : ByteArray) 0 (⟨#[69]⟩ : ByteArray) (⟨#[98]⟩ : ByteArray) (⟨#[]⟩ : ByteArray) (⟨#[]⟩ : ByteArray) 0).bind fun t228 => (if t228 = (-1) then ((fact_Right.f k t213).bind fun t229 => (if t229 = true then ((fact_Pick.f k t213 (⟨#[69]⟩ : ByteArray) 0).bind fun t230 => (some ((t230.length : Int) == 2))) else (none))) else (none))) else (none)) = some r := H
         have A12 := Aside0.mk A120; clear A120
         by_cases c13 : t227 = 5
         ·rw [if_pos c13] at H
          have c13b0 : (t227 == 5) = true := beq_iff_eq.mpr c13
          have c13b1 : (t227 != 5) = false := bne_eq_false_iff_eq.mpr c13
          clear c13
          replace H := Option.bind_eq_some_iff.mp H
          obtain ⟨t228, A140, H⟩ := H
          replace H : (if t228 = (-1) then ((fact_Right.f k t213).bind fun t229 => (if t229 = true then ((fact_Pick.f k t213 (⟨#[69]⟩ : ByteArray) 0).bind fun t230 => (some ((t230.length : Int) == 2))) else (none))) else (none)) = some r := H
          have A14 := Aside0.mk A140; clear A140
          by_cases c15 : t228 = (-1)
          ·rw [if_pos c15] at H
           have c15b0 : (t228 == (-1)) = true := beq_iff_eq.mpr c15
           have c15b1 : (t228 != (-1)) = false := bne_eq_false_iff_eq.mpr c15
           clear c15
           replace H := Option.bind_eq_some_iff.mp H
           obtain ⟨t229, A160, H⟩ := H
           replace H : (if t229 = true then ((fact_Pick.f k t213 (⟨#[69]⟩ : ByteArray) 0).bind fun t230 => (some ((t230.length : Int) == 2))) else (none)) = some r := H
           have A16 := Aside0.mk A160; clear A160
           by_cases c17 : t229 = true
           ·subst c17
            have H1 : ((fact_Pick.f k t213 (⟨#[69]⟩ : ByteArray) 0).bind fun t230 => (some ((t230.length : Int) == 2))) = some r := by rw [if_pos rfl] at H; exact H
            clear H; have H := H1; clear H1
            replace H := Option.bind_eq_some_iff.mp H
            obtain ⟨t230, A180, H⟩ := H
            replace H : (some ((t230.length : Int) == 2)) = some r := H
            have A18 := Aside0.mk A180; clear A180
            obtain rfl := Option.some.inj H
            go_enter Try.func6, Try.ntmps6
            go_wp2_with (first | ((with_reducible refine gate_dst (N := 1) rfl ?_); (try (refine gate_guard (by rfl) ?_; dsimp only)); refine box_event ?hg (N := 1) ?hd (cs := #[.string (⟨#[]⟩ : ByteArray), .string (⟨#[]⟩ : ByteArray), .string (⟨#[]⟩ : ByteArray), .string (⟨#[]⟩ : ByteArray), .int .i64 0]) (t := 44) ?hr ?_; (case hd => rfl); (case hg => rfl); (case hr => first | (go_simp; done) | (go_simp; rfl)); intro gb208 hg w19 hbox hb; have n0_ := Aside0.mk (below_step bw hb); have n1_ := Aside0.mk (hbox); have n2_ := Aside0.mk ((by rw [hg]; exact (below_size bw) : w.heap.size ≤ gb208)); have n3_ := Aside0.mk ((by rw [hg]; exact (below_size bw) : w.heap.size ≤ gb208)); clear HB; have HB := n0_; have BK208 := n1_; have GW208 := n2_; have GE208 := n3_; clear n0_ n1_ n2_ n3_; clear hb hbox hg) | ((with_reducible refine gate_dst (N := 2) rfl ?_); (try (refine gate_guard (by rfl) ?_; dsimp only)); refine box_event ?hg (N := 2) ?hd (cs := #[.string (⟨#[]⟩ : ByteArray), .string (⟨#[]⟩ : ByteArray), .string (⟨#[]⟩ : ByteArray), .string (⟨#[]⟩ : ByteArray), .int .i64 0]) (t := 44) ?hr ?_; (case hd => rfl); (case hg => rfl); (case hr => first | (go_simp; done) | (go_simp; rfl)); intro gb209 hg w20 hbox hb; have n0_ := Aside0.mk (blk_below (g := gb208) (o := .cells #[.string (⟨#[]⟩ : ByteArray), .string (⟨#[]⟩ : ByteArray), .string (⟨#[]⟩ : ByteArray), .string (⟨#[]⟩ : ByteArray), .int .i64 0] 44 (0, 0)) (by (with_reducible repeat (first | refine blk_drewN ?_ _ | refine blk_drew ?_ | refine blk_alloc ?_ _)); exact BK208.out) hb); have n1_ := Aside0.mk (below_step bx hb); have n2_ := Aside0.mk (hbox); have n3_ := Aside0.mk ((by rw [hg]; exact (below_size bx) : w.heap.size ≤ gb209)); have n4_ := Aside0.mk ((by rw [hg]; exact (below_size bx) : w.heap.size ≤ gb209)); have n5_ := Aside0.mk ((by rw [hg]; exact Nat.ne_of_lt (blk_lt (g := gb208) (o := .cells #[.string (⟨#[]⟩ : ByteArray), .string (⟨#[]⟩ : ByteArray), .string (⟨#[]⟩ : ByteArray), .string (⟨#[]⟩ : ByteArray), .int .i64 0] 44 (0, 0)) (by (with_reducible repeat (first | refine blk_drewN ?_ _ | refine blk_drew ?_ | refine blk_alloc ?_ _)); exact BK208.out)) : gb208 ≠ gb209)); have n6_ := Aside0.mk ((by rw [hg]; exact Nat.ne_of_gt (blk_lt (g := gb208) (o := .cells #[.string (⟨#[]⟩ : ByteArray), .string (⟨#[]⟩ : ByteArray), .string (⟨#[]⟩ : ByteArray), .string (⟨#[]⟩ : ByteArray), .int .i64 0] 44 (0, 0)) (by (with_reducible repeat (first | refine blk_drewN ?_ _ | refine blk_drew ?_ | refine blk_alloc ?_ _)); exact BK208.out)) : gb209 ≠ gb208)); clear BK208; clear HB; have BK208 := n0_; have HB := n1_; have BK209 := n2_; have GW209 := n3_; have GE209 := n4_; have NB208_209 := n5_; have NB209_208 := n6_; clear n0_ n1_ n2_ n3_ n4_ n5_ n6_; clear hb hbox hg; have hnb21 := NB208_209.out; have hnc21 := NB209_208.out; obtain ⟨hcz22_0, hcz22_1, hcz22_2, hcz22_3, hcz22_4⟩ := bc5 BK208.out; have hfz22_0 := blk_frozen BK208.out 0; have hfz22_1 := blk_frozen BK208.out 1; have hfz22_2 := blk_frozen BK208.out 2; have hfz22_3 := blk_frozen BK208.out 3; have hfz22_4 := blk_frozen BK208.out 4; obtain ⟨hcz23_0, hcz23_1, hcz23_2, hcz23_3, hcz23_4⟩ := bc5 BK209.out; have hfz23_0 := blk_frozen BK209.out 0; have hfz23_1 := blk_frozen BK209.out 1; have hfz23_2 := blk_frozen BK209.out 2; have hfz23_3 := blk_frozen BK209.out 3; have hfz23_4 := blk_frozen BK209.out 4) | ((with_reducible refine gate_dst (N := 18) rfl ?_); (try (refine gate_guard (by rfl) ?_; dsimp only)); refine Kd.R_lit k55 _ 55 ?hg (N := 18) ?hd (xs := ([(⟨(⟨(⟨#[69]⟩ : ByteArray), (⟨#[98]⟩ : ByteArray), (⟨#[]⟩ : ByteArray), (⟨#[]⟩ : ByteArray), 0⟩ : S44), 5⟩ : S55), (⟨(⟨(⟨#[69]⟩ : ByteArray), (⟨#[97]⟩ : ByteArray), (⟨#[]⟩ : ByteArray), (⟨#[]⟩ : ByteArray), 0⟩ : S44), 1⟩ : S55), (⟨(⟨(⟨#[69]⟩ : ByteArray), (⟨#[97]⟩ : ByteArray), (⟨#[]⟩ : ByteArray), (⟨#[]⟩ : ByteArray), 0⟩ : S44), 2⟩ : S55)] : List (S55))) (inner := [.string (⟨#[69]⟩ : ByteArray), .string (⟨#[98]⟩ : ByteArray), .string (⟨#[]⟩ : ByteArray), .string (⟨#[]⟩ : ByteArray), .int .i64 0, .int .i64 5, .string (⟨#[69]⟩ : ByteArray), .string (⟨#[97]⟩ : ByteArray), .string (⟨#[]⟩ : ByteArray), .string (⟨#[]⟩ : ByteArray), .int .i64 0, .int .i64 1, .string (⟨#[69]⟩ : ByteArray), .string (⟨#[97]⟩ : ByteArray), .string (⟨#[]⟩ : ByteArray), .string (⟨#[]⟩ : ByteArray), .int .i64 0, .int .i64 2]) (ok := fun _ => True) (okp := fun _ => True) ?hr ?hp (fun _ hk => hk) trivial (Below.refl _ _) (Nat.le_refl _) (by simp) ?_; (case hd => rfl); (case hg => rfl); (case hr => first | (go_simp; done) | (go_simp; rfl)); (case hp => exact (Reps.c6 (show Kd.M k55 _ _ _ (⟨(⟨(⟨#[69]⟩ : ByteArray), (⟨#[98]⟩ : ByteArray), (⟨#[]⟩ : ByteArray), (⟨#[]⟩ : ByteArray), 0⟩ : S44), 5⟩ : S55) [.string (⟨#[69]⟩ : ByteArray), .string (⟨#[98]⟩ : ByteArray), .string (⟨#[]⟩ : ByteArray), .string (⟨#[]⟩ : ByteArray), .int .i64 0, .int .i64 5] from (k55_mkM _ _ _ (⟨(⟨(⟨#[69]⟩ : ByteArray), (⟨#[98]⟩ : ByteArray), (⟨#[]⟩ : ByteArray), (⟨#[]⟩ : ByteArray), 0⟩ : S44), 5⟩ : S55) )) (Reps.c6 (show Kd.M k55 _ _ _ (⟨(⟨(⟨#[69]⟩ : ByteArray), (⟨#[97]⟩ : ByteArray), (⟨#[]⟩ : ByteArray), (⟨#[]⟩ : ByteArray), 0⟩ : S44), 1⟩ : S55) [.string (⟨#[69]⟩ : ByteArray), .string (⟨#[97]⟩ : ByteArray), .string (⟨#[]⟩ : ByteArray), .string (⟨#[]⟩ : ByteArray), .int .i64 0, .int .i64 1] from (k55_mkM _ _ _ (⟨(⟨(⟨#[69]⟩ : ByteArray), (⟨#[97]⟩ : ByteArray), (⟨#[]⟩ : ByteArray), (⟨#[]⟩ : ByteArray), 0⟩ : S44), 1⟩ : S55) )) (Reps.c6 (show Kd.M k55 _ _ _ (⟨(⟨(⟨#[69]⟩ : ByteArray), (⟨#[97]⟩ : ByteArray), (⟨#[]⟩ : ByteArray), (⟨#[]⟩ : ByteArray), 0⟩ : S44), 2⟩ : S55) [.string (⟨#[69]⟩ : ByteArray), .string (⟨#[97]⟩ : ByteArray), .string (⟨#[]⟩ : ByteArray), .string (⟨#[]⟩ : ByteArray), .int .i64 0, .int .i64 2] from (k55_mkM _ _ _ (⟨(⟨(⟨#[69]⟩ : ByteArray), (⟨#[97]⟩ : ByteArray), (⟨#[]⟩ : ByteArray), (⟨#[]⟩ : ByteArray), 0⟩ : S44), 2⟩ : S55) )) (Reps.none _ _))))); intro v211 w24 ho25 hb hg_ hnew_; clear hg_ hnew_; (first | rw [← Ny210.out] at ho25 | (simp only [Int.reduceToNat] at ho25; rw [← Ny210.out] at ho25)); have n0_ := Aside0.mk (Kd.R_lower ho25 (below_size bx)); have n1_ := Aside0.mk (blk_below (g := gb208) (o := .cells #[.string (⟨#[69]⟩ : ByteArray), .string (⟨#[97]⟩ : ByteArray), .string (⟨#[]⟩ : ByteArray), .string (⟨#[]⟩ : ByteArray), .int .i64 0] 44 (0, 0)) (by (with_reducible repeat (first | refine blk_drewN ?_ _ | refine blk_drew ?_ | refine blk_alloc ?_ _)); refine blk_far ?_ NB208_209.out _; (with_reducible repeat (first | refine blk_drewN ?_ _ | refine blk_drew ?_ | refine blk_alloc ?_ _)); refine blk_far ?_ NB208_209.out _; (with_reducible repeat (first | refine blk_drewN ?_ _ | refine blk_drew ?_ | refine blk_alloc ?_ _)); refine blk_far ?_ NB208_209.out _; (with_reducible repeat (first | refine blk_drewN ?_ _ | refine blk_drew ?_ | refine blk_alloc ?_ _)); refine blk_far ?_ NB208_209.out _; (with_reducible repeat (first | refine blk_drewN ?_ _ | refine blk_drew ?_ | refine blk_alloc ?_ _)); refine blk_far ?_ NB208_209.out _; (with_reducible repeat (first | refine blk_drewN ?_ _ | refine blk_drew ?_ | refine blk_alloc ?_ _)); refine blk_put (cs := #[.string (⟨#[69]⟩ : ByteArray), .string (⟨#[97]⟩ : ByteArray), .string (⟨#[]⟩ : ByteArray), .string (⟨#[]⟩ : ByteArray), .int .i64 0]) ?_ 4 _ rfl; (with_reducible repeat (first | refine blk_drewN ?_ _ | refine blk_drew ?_ | refine blk_alloc ?_ _)); refine blk_put (cs := #[.string (⟨#[69]⟩ : ByteArray), .string (⟨#[97]⟩ : ByteArray), .string (⟨#[]⟩ : ByteArray), .string (⟨#[]⟩ : ByteArray), .int .i64 0]) ?_ 3 _ rfl; (with_reducible repeat (first | refine blk_drewN ?_ _ | refine blk_drew ?_ | refine blk_alloc ?_ _)); refine blk_put (cs := #[.string (⟨#[69]⟩ : ByteArray), .string (⟨#[97]⟩ : ByteArray), .string (⟨#[]⟩ : ByteArray), .string (⟨#[]⟩ : ByteArray), .int .i64 0]) ?_ 2 _ rfl; (with_reducible repeat (first | refine blk_drewN ?_ _ | refine blk_drew ?_ | refine blk_alloc ?_ _)); refine blk_put (cs := #[.string (⟨#[69]⟩ : ByteArray), .string (⟨#[]⟩ : ByteArray), .string (⟨#[]⟩ : ByteArray), .string (⟨#[]⟩ : ByteArray), .int .i64 0]) ?_ 1 _ rfl; (with_reducible repeat (first | refine blk_drewN ?_ _ | refine blk_drew ?_ | refine blk_alloc ?_ _)); refine blk_put (cs := #[.string (⟨#[]⟩ : ByteArray), .string (⟨#[]⟩ : ByteArray), .string (⟨#[]⟩ : ByteArray), .string (⟨#[]⟩ : ByteArray), .int .i64 0]) ?_ 0 _ rfl; (with_reducible repeat (first | refine blk_drewN ?_ _ | refine blk_drew ?_ | refine blk_alloc ?_ _)); exact BK208.out) hb); have n2_ := Aside0.mk (blk_below (g := gb209) (o := .cells #[.string (⟨#[69]⟩ : ByteArray), .string (⟨#[98]⟩ : ByteArray), .string (⟨#[]⟩ : ByteArray), .string (⟨#[]⟩ : ByteArray), .int .i64 0] 44 (0, 0)) (by (with_reducible repeat (first | refine blk_drewN ?_ _ | refine blk_drew ?_ | refine blk_alloc ?_ _)); refine blk_put (cs := #[.string (⟨#[69]⟩ : ByteArray), .string (⟨#[98]⟩ : ByteArray), .string (⟨#[]⟩ : ByteArray), .string (⟨#[]⟩ : ByteArray), .int .i64 0]) ?_ 4 _ rfl; (with_reducible repeat (first | refine blk_drewN ?_ _ | refine blk_drew ?_ | refine blk_alloc ?_ _)); refine blk_put (cs := #[.string (⟨#[69]⟩ : ByteArray), .string (⟨#[98]⟩ : ByteArray), .string (⟨#[]⟩ : ByteArray), .string (⟨#[]⟩ : ByteArray), .int .i64 0]) ?_ 3 _ rfl; (with_reducible repeat (first | refine blk_drewN ?_ _ | refine blk_drew ?_ | refine blk_alloc ?_ _)); refine blk_put (cs := #[.string (⟨#[69]⟩ : ByteArray), .string (⟨#[98]⟩ : ByteArray), .string (⟨#[]⟩ : ByteArray), .string (⟨#[]⟩ : ByteArray), .int .i64 0]) ?_ 2 _ rfl; (with_reducible repeat (first | refine blk_drewN ?_ _ | refine blk_drew ?_ | refine blk_alloc ?_ _)); refine blk_put (cs := #[.string (⟨#[69]⟩ : ByteArray), .string (⟨#[]⟩ : ByteArray), .string (⟨#[]⟩ : ByteArray), .string (⟨#[]⟩ : ByteArray), .int .i64 0]) ?_ 1 _ rfl; (with_reducible repeat (first | refine blk_drewN ?_ _ | refine blk_drew ?_ | refine blk_alloc ?_ _)); refine blk_put (cs := #[.string (⟨#[]⟩ : ByteArray), .string (⟨#[]⟩ : ByteArray), .string (⟨#[]⟩ : ByteArray), .string (⟨#[]⟩ : ByteArray), .int .i64 0]) ?_ 0 _ rfl; (with_reducible repeat (first | refine blk_drewN ?_ _ | refine blk_drew ?_ | refine blk_alloc ?_ _)); refine blk_far ?_ NB209_208.out _; (with_reducible repeat (first | refine blk_drewN ?_ _ | refine blk_drew ?_ | refine blk_alloc ?_ _)); refine blk_far ?_ NB209_208.out _; (with_reducible repeat (first | refine blk_drewN ?_ _ | refine blk_drew ?_ | refine blk_alloc ?_ _)); refine blk_far ?_ NB209_208.out _; (with_reducible repeat (first | refine blk_drewN ?_ _ | refine blk_drew ?_ | refine blk_alloc ?_ _)); refine blk_far ?_ NB209_208.out _; (with_reducible repeat (first | refine blk_drewN ?_ _ | refine blk_drew ?_ | refine blk_alloc ?_ _)); refine blk_far ?_ NB209_208.out _; (with_reducible repeat (first | refine blk_drewN ?_ _ | refine blk_drew ?_ | refine blk_alloc ?_ _)); exact BK209.out) hb); have n3_ := Aside0.mk (below_step bx hb); clear BK208; clear BK209; clear HB; have HO212 := n0_; have BK208 := n1_; have BK209 := n2_; have HB := n3_; clear n0_ n1_ n2_ n3_; clear hb ho25; obtain ⟨Ao26, co26, eo26⟩ := Kd.R_slice HO212.out; subst eo26) | ((with_reducible refine gate_callee (f := 21) rfl ?_); refine goesL_ (some 19) rfl rfl Try.func21 (by kernel_rfl) rfl #[.slice Ao26 y210.length co26] rfl mp_ ?_; (with_reducible refine (fact_Of.calls k _ _ y210 t213 t214 _ ?side1 ?side2 A1.out).mono ?_); (case side1 => repeat (first | exact (Kd.R_reads' HO212.out).2.2 | (with_reducible refine Kd.C_alloc ?_ _) | (with_reducible refine Kd.C_drewN ?_ _) | (with_reducible refine Kd.C_drew ?_))); (case side2 => exact (Kd.R_reads' HO212.out).2.1); rintro e w27 ⟨v215, rfl, ho0, hb⟩; refine ⟨_, rfl, ?_⟩; have n0_ := Aside0.mk (Kd.R_elder' (kr HO212) (Kd.R_base ho0) hb); have n1_ := Aside0.mk (Kd.R_lower (Kd.R_new' ho0 (Kd.R_lt (kr HO212))) (below_size bx)); have n2_ := Aside0.mk (blk_below (g := gb208) (o := .cells #[.string (⟨#[69]⟩ : ByteArray), .string (⟨#[97]⟩ : ByteArray), .string (⟨#[]⟩ : ByteArray), .string (⟨#[]⟩ : ByteArray), .int .i64 0] 44 (0, 0)) (by (with_reducible repeat (first | refine blk_drewN ?_ _ | refine blk_drew ?_ | refine blk_alloc ?_ _)); exact BK208.out) hb); have n3_ := Aside0.mk (blk_below (g := gb209) (o := .cells #[.string (⟨#[69]⟩ : ByteArray), .string (⟨#[98]⟩ : ByteArray), .string (⟨#[]⟩ : ByteArray), .string (⟨#[]⟩ : ByteArray), .int .i64 0] 44 (0, 0)) (by (with_reducible repeat (first | refine blk_drewN ?_ _ | refine blk_drew ?_ | refine blk_alloc ?_ _)); exact BK209.out) hb); have n4_ := Aside0.mk (below_step bx hb); clear HO212; clear BK208; clear BK209; clear HB; have HO212 := n0_; have HO216 := n1_; have BK208 := n2_; have BK209 := n3_; have HB := n4_; clear n0_ n1_ n2_ n3_ n4_; (try clear hb); (try clear hb2); (try clear hk); (try clear hi); (try clear ho0); obtain ⟨Ao28, co28, eo28⟩ := Kd.R_slice HO216.out; subst eo28) | ((with_reducible refine gate_callee (f := 12) rfl ?_); refine goesL_ (some 24) rfl rfl Try.func12 (by kernel_rfl) rfl #[.slice Ao28 t213.length co28, .string (⟨#[]⟩ : ByteArray), .string (⟨#[]⟩ : ByteArray), .string (⟨#[]⟩ : ByteArray)] rfl mp_ ?_; (with_reducible refine (fact_Sum.calls k _ _ t213 (⟨#[]⟩ : ByteArray) (⟨#[]⟩ : ByteArray) (⟨#[]⟩ : ByteArray) t217 t218 _ ?side1 ?side2 A2.out).mono ?_); (case side1 => repeat (first | exact (Kd.R_reads' HO216.out).2.2 | (with_reducible refine Kd.C_alloc ?_ _) | (with_reducible refine Kd.C_drewN ?_ _) | (with_reducible refine Kd.C_drew ?_))); (case side2 => exact (Kd.R_reads' HO216.out).2.1); rintro e w29 ⟨rfl, hb⟩; refine ⟨_, rfl, ?_⟩; have n0_ := Aside0.mk (Kd.R_below (kr HO212) hb); have n1_ := Aside0.mk (Kd.R_below (kr HO216) hb); have n2_ := Aside0.mk (blk_below (g := gb208) (o := .cells #[.string (⟨#[69]⟩ : ByteArray), .string (⟨#[97]⟩ : ByteArray), .string (⟨#[]⟩ : ByteArray), .string (⟨#[]⟩ : ByteArray), .int .i64 0] 44 (0, 0)) (by (with_reducible repeat (first | refine blk_drewN ?_ _ | refine blk_drew ?_ | refine blk_alloc ?_ _)); exact BK208.out) hb); have n3_ := Aside0.mk (blk_below (g := gb209) (o := .cells #[.string (⟨#[69]⟩ : ByteArray), .string (⟨#[98]⟩ : ByteArray), .string (⟨#[]⟩ : ByteArray), .string (⟨#[]⟩ : ByteArray), .int .i64 0] 44 (0, 0)) (by (with_reducible repeat (first | refine blk_drewN ?_ _ | refine blk_drew ?_ | refine blk_alloc ?_ _)); exact BK209.out) hb); have n4_ := Aside0.mk (below_step bx hb); clear HO212; clear HO216; clear BK208; clear BK209; clear HB; have HO212 := n0_; have HO216 := n1_; have BK208 := n2_; have BK209 := n3_; have HB := n4_; clear n0_ n1_ n2_ n3_ n4_; (try clear hb); (try clear hb2); (try clear hk); (try clear hi); obtain ⟨hcz30_0, hcz30_1, hcz30_2, hcz30_3, hcz30_4⟩ := bc5 BK209.out; have hfz30_0 := blk_frozen BK209.out 0; have hfz30_1 := blk_frozen BK209.out 1; have hfz30_2 := blk_frozen BK209.out 2; have hfz30_3 := blk_frozen BK209.out 3; have hfz30_4 := blk_frozen BK209.out 4) | ((with_reducible refine gate_dst (N := 31) rfl ?_); (try (refine gate_guard (by rfl) ?_; dsimp only)); refine Kd.R_lit k55 _ 55 ?hg (N := 31) ?hd (xs := ([(⟨(⟨(⟨#[69]⟩ : ByteArray), (⟨#[98]⟩ : ByteArray), (⟨#[]⟩ : ByteArray), (⟨#[]⟩ : ByteArray), 0⟩ : S44), (-5)⟩ : S55)] : List (S55))) (inner := [.string (⟨#[69]⟩ : ByteArray), .string (⟨#[98]⟩ : ByteArray), .string (⟨#[]⟩ : ByteArray), .string (⟨#[]⟩ : ByteArray), .int .i64 0, .int .i64 (-5)]) (ok := fun _ => True) (okp := fun _ => True) ?hr ?hp (fun _ hk => hk) trivial (Below.refl _ _) (Nat.le_refl _) (by simp) ?_; (case hd => rfl); (case hg => rfl); (case hr => first | (go_simp; done) | (go_simp; rfl)); (case hp => exact (Reps.c6 (show Kd.M k55 _ _ _ (⟨(⟨(⟨#[69]⟩ : ByteArray), (⟨#[98]⟩ : ByteArray), (⟨#[]⟩ : ByteArray), (⟨#[]⟩ : ByteArray), 0⟩ : S44), (-5)⟩ : S55) [.string (⟨#[69]⟩ : ByteArray), .string (⟨#[98]⟩ : ByteArray), .string (⟨#[]⟩ : ByteArray), .string (⟨#[]⟩ : ByteArray), .int .i64 0, .int .i64 (-5)] from (k55_mkM _ _ _ (⟨(⟨(⟨#[69]⟩ : ByteArray), (⟨#[98]⟩ : ByteArray), (⟨#[]⟩ : ByteArray), (⟨#[]⟩ : ByteArray), 0⟩ : S44), (-5)⟩ : S55) )) (Reps.none _ _))); intro v220 w31 ho32 hb hg_ hnew_; clear hg_ hnew_; (first | rw [← Ny219.out] at ho32 | (simp only [Int.reduceToNat] at ho32; rw [← Ny219.out] at ho32)); have n0_ := Aside0.mk (Kd.R_elder' (kr HO212) (Kd.R_base ho32) hb); have n1_ := Aside0.mk (Kd.R_elder' (kr HO216) (Kd.R_base ho32) hb); have n2_ := Aside0.mk (Kd.R_lower (Kd.R_new' (Kd.R_new' ho32 (Kd.R_lt (kr HO212))) (Kd.R_lt (kr HO216))) (below_size bx)); have n3_ := Aside0.mk (blk_below (g := gb208) (o := .cells #[.string (⟨#[69]⟩ : ByteArray), .string (⟨#[97]⟩ : ByteArray), .string (⟨#[]⟩ : ByteArray), .string (⟨#[]⟩ : ByteArray), .int .i64 0] 44 (0, 0)) (by (with_reducible repeat (first | refine blk_drewN ?_ _ | refine blk_drew ?_ | refine blk_alloc ?_ _)); exact BK208.out) hb); have n4_ := Aside0.mk (blk_below (g := gb209) (o := .cells #[.string (⟨#[69]⟩ : ByteArray), .string (⟨#[98]⟩ : ByteArray), .string (⟨#[]⟩ : ByteArray), .string (⟨#[]⟩ : ByteArray), .int .i64 0] 44 (0, 0)) (by (with_reducible repeat (first | refine blk_drewN ?_ _ | refine blk_drew ?_ | refine blk_alloc ?_ _)); exact BK209.out) hb); have n5_ := Aside0.mk (below_step bx hb); clear HO212; clear HO216; clear BK208; clear BK209; clear HB; have HO212 := n0_; have HO216 := n1_; have HO221 := n2_; have BK208 := n3_; have BK209 := n4_; have HB := n5_; clear n0_ n1_ n2_ n3_ n4_ n5_; clear hb ho32; obtain ⟨Ao33, co33, eo33⟩ := Kd.R_slice HO221.out; subst eo33) | ((with_reducible refine gate_callee (f := 9) rfl ?_); refine goesL_ (some 32) rfl rfl Try.func9 (by kernel_rfl) rfl #[.slice Ao28 t213.length co28, .slice Ao33 y219.length co33] rfl mp_ ?_; (with_reducible refine (fact_Add.calls k (fun k_ => some k_ = (.slice Ao28 t213.length co28 : Value).ownBlock) _ _ t213 (fun k_ => some k_ = (.slice Ao33 y219.length co33 : Value).ownBlock) _ _ y219 t222 t225 _ ?side1 ?side2 A3.out).mono ?_); (case side1 => exact Kd.R_V (Kd.R_tight rfl (Kd.R_types (Kd.R_types (HO216.out) BK208.out (by decide)) BK209.out (by decide)))); (case side2 => exact Kd.R_V (Kd.R_tight rfl (Kd.R_types (Kd.R_types (HO221.out) BK208.out (by decide)) BK209.out (by decide)))); rintro e w34 ⟨v223, rfl, ho0, hb⟩; refine ⟨_, rfl, ?_⟩; have n0_ := Aside0.mk (Kd.R_elder' (kr HO212) (Kd.R_base ho0) hb); have n1_ := Aside0.mk (Kd.R_elder' (kr HO216) (Kd.R_base ho0) hb); have n2_ := Aside0.mk (Kd.R_elder' (kr HO221) (Kd.R_base ho0) hb); have n3_ := Aside0.mk (Kd.R_lower (Kd.R_new' (Kd.R_new' (Kd.R_new' (Kd.R_mono (ok' := fun k_ => True) ho0 (fun _ hk_ => trivial)) (Kd.R_lt (kr HO212))) (Kd.R_lt (kr HO216))) (Kd.R_lt (kr HO221))) (below_size bx)); have n4_ := Aside0.mk (blk_below (g := gb208) (o := .cells #[.string (⟨#[69]⟩ : ByteArray), .string (⟨#[97]⟩ : ByteArray), .string (⟨#[]⟩ : ByteArray), .string (⟨#[]⟩ : ByteArray), .int .i64 0] 44 (0, 0)) (by (with_reducible repeat (first | refine blk_drewN ?_ _ | refine blk_drew ?_ | refine blk_alloc ?_ _)); exact BK208.out) hb); have n5_ := Aside0.mk (blk_below (g := gb209) (o := .cells #[.string (⟨#[69]⟩ : ByteArray), .string (⟨#[98]⟩ : ByteArray), .string (⟨#[]⟩ : ByteArray), .string (⟨#[]⟩ : ByteArray), .int .i64 0] 44 (0, 0)) (by (with_reducible repeat (first | refine blk_drewN ?_ _ | refine blk_drew ?_ | refine blk_alloc ?_ _)); exact BK209.out) hb); have n6_ := Aside0.mk (below_step bx hb); clear HO212; clear HO216; clear HO221; clear BK208; clear BK209; clear HB; have HO212 := n0_; have HO216 := n1_; have HO221 := n2_; have HO224 := n3_; have BK208 := n4_; have BK209 := n5_; have HB := n6_; clear n0_ n1_ n2_ n3_ n4_ n5_ n6_; (try clear hb); (try clear hb2); (try clear hk); (try clear hi); (try clear ho0); have p226 : 0 ≤ (0 : Int) := (by omega); have q226 : 0 < (t213.length : Int) := of_decide_eq_true as_; obtain ⟨ad226, e226, hx226_0, hx226_1, hx226_2, hx226_3, hx226_4, hx226_5⟩ := at_T55 (Kd.R_reads' HO216.out).2.2 0 p226 q226; cases e226; have qi226 : (0 < t213.length) = True := eq_true (by omega); (try rw [show ((0 : Int)).toNat = 0 from rfl] at hx226_0); (try rw [show 0 * 6 = 0 from rfl] at hx226_0); (try rw [Addr.add_zero'] at hx226_0); (try rw [show ((0 : Int)).toNat = 0 from rfl] at hx226_1); (try rw [show 0 * 6 = 0 from rfl] at hx226_1); (try rw [Addr.add_zero'] at hx226_1); (try rw [show ((0 : Int)).toNat = 0 from rfl] at hx226_2); (try rw [show 0 * 6 = 0 from rfl] at hx226_2); (try rw [Addr.add_zero'] at hx226_2); (try rw [show ((0 : Int)).toNat = 0 from rfl] at hx226_3); (try rw [show 0 * 6 = 0 from rfl] at hx226_3); (try rw [Addr.add_zero'] at hx226_3); (try rw [show ((0 : Int)).toNat = 0 from rfl] at hx226_4); (try rw [show 0 * 6 = 0 from rfl] at hx226_4); (try rw [Addr.add_zero'] at hx226_4); (try rw [show ((0 : Int)).toNat = 0 from rfl] at hx226_5); (try rw [show 0 * 6 = 0 from rfl] at hx226_5); (try rw [Addr.add_zero'] at hx226_5); replace p226 := eq_true p226; replace q226 := eq_true q226; obtain ⟨Ao35, co35, eo35⟩ := Kd.R_slice HO224.out; subst eo35; obtain ⟨hcz36_0, hcz36_1, hcz36_2, hcz36_3, hcz36_4⟩ := bc5 BK209.out; have hfz36_0 := blk_frozen BK209.out 0; have hfz36_1 := blk_frozen BK209.out 1; have hfz36_2 := blk_frozen BK209.out 2; have hfz36_3 := blk_frozen BK209.out 3; have hfz36_4 := blk_frozen BK209.out 4) | (go_at_call 16; (with_reducible refine (fact_Get.calls k _ _ t213 (⟨#[69]⟩ : ByteArray) (⟨#[98]⟩ : ByteArray) (⟨#[]⟩ : ByteArray) (⟨#[]⟩ : ByteArray) 0 t227 _ ?side1 ?side2 A12.out).mono ?_); (case side1 => repeat (first | exact (Kd.R_reads' HO216.out).2.2 | (with_reducible refine Kd.C_alloc ?_ _) | (with_reducible refine Kd.C_drewN ?_ _) | (with_reducible refine Kd.C_drew ?_))); (case side2 => exact (Kd.R_reads' HO216.out).2.1); rintro e w37 ⟨rfl, hb⟩; have n0_ := Aside0.mk (Kd.R_below (kr HO212) hb); have n1_ := Aside0.mk (Kd.R_below (kr HO216) hb); have n2_ := Aside0.mk (Kd.R_below (kr HO221) hb); have n3_ := Aside0.mk (Kd.R_below (kr HO224) hb); have n4_ := Aside0.mk (blk_below (g := gb208) (o := .cells #[.string (⟨#[69]⟩ : ByteArray), .string (⟨#[97]⟩ : ByteArray), .string (⟨#[]⟩ : ByteArray), .string (⟨#[]⟩ : ByteArray), .int .i64 0] 44 (0, 0)) (by (with_reducible repeat (first | refine blk_drewN ?_ _ | refine blk_drew ?_ | refine blk_alloc ?_ _)); exact BK208.out) hb); have n5_ := Aside0.mk (blk_below (g := gb209) (o := .cells #[.string (⟨#[69]⟩ : ByteArray), .string (⟨#[98]⟩ : ByteArray), .string (⟨#[]⟩ : ByteArray), .string (⟨#[]⟩ : ByteArray), .int .i64 0] 44 (0, 0)) (by (with_reducible repeat (first | refine blk_drewN ?_ _ | refine blk_drew ?_ | refine blk_alloc ?_ _)); exact BK209.out) hb); have n6_ := Aside0.mk (below_step bx hb); clear HO212; clear HO216; clear HO221; clear HO224; clear BK208; clear BK209; clear HB; have HO212 := n0_; have HO216 := n1_; have HO221 := n2_; have HO224 := n3_; have BK208 := n4_; have BK209 := n5_; have HB := n6_; clear n0_ n1_ n2_ n3_ n4_ n5_ n6_; (try clear hb); (try clear hb2); (try clear hk); (try clear hi); obtain ⟨hcz38_0, hcz38_1, hcz38_2, hcz38_3, hcz38_4⟩ := bc5 BK208.out; have hfz38_0 := blk_frozen BK208.out 0; have hfz38_1 := blk_frozen BK208.out 1; have hfz38_2 := blk_frozen BK208.out 2; have hfz38_3 := blk_frozen BK208.out 3; have hfz38_4 := blk_frozen BK208.out 4; obtain ⟨hcz39_0, hcz39_1, hcz39_2, hcz39_3, hcz39_4⟩ := bc5 BK209.out; have hfz39_0 := blk_frozen BK209.out 0; have hfz39_1 := blk_frozen BK209.out 1; have hfz39_2 := blk_frozen BK209.out 2; have hfz39_3 := blk_frozen BK209.out 3; have hfz39_4 := blk_frozen BK209.out 4) | (go_at_call 23; (with_reducible refine (fact_Cmp.calls k (⟨#[69]⟩ : ByteArray) (⟨#[97]⟩ : ByteArray) (⟨#[]⟩ : ByteArray) (⟨#[]⟩ : ByteArray) 0 (⟨#[69]⟩ : ByteArray) (⟨#[98]⟩ : ByteArray) (⟨#[]⟩ : ByteArray) (⟨#[]⟩ : ByteArray) 0 t228 _ A14.out).mono ?_); rintro e w40 ⟨rfl, hb⟩; have n0_ := Aside0.mk (Kd.R_below (kr HO212) hb); have n1_ := Aside0.mk (Kd.R_below (kr HO216) hb); have n2_ := Aside0.mk (Kd.R_below (kr HO221) hb); have n3_ := Aside0.mk (Kd.R_below (kr HO224) hb); have n4_ := Aside0.mk (blk_below (g := gb208) (o := .cells #[.string (⟨#[69]⟩ : ByteArray), .string (⟨#[97]⟩ : ByteArray), .string (⟨#[]⟩ : ByteArray), .string (⟨#[]⟩ : ByteArray), .int .i64 0] 44 (0, 0)) (by (with_reducible repeat (first | refine blk_drewN ?_ _ | refine blk_drew ?_ | refine blk_alloc ?_ _)); exact BK208.out) hb); have n5_ := Aside0.mk (blk_below (g := gb209) (o := .cells #[.string (⟨#[69]⟩ : ByteArray), .string (⟨#[98]⟩ : ByteArray), .string (⟨#[]⟩ : ByteArray), .string (⟨#[]⟩ : ByteArray), .int .i64 0] 44 (0, 0)) (by (with_reducible repeat (first | refine blk_drewN ?_ _ | refine blk_drew ?_ | refine blk_alloc ?_ _)); exact BK209.out) hb); have n6_ := Aside0.mk (below_step bx hb); clear HO212; clear HO216; clear HO221; clear HO224; clear BK208; clear BK209; clear HB; have HO212 := n0_; have HO216 := n1_; have HO221 := n2_; have HO224 := n3_; have BK208 := n4_; have BK209 := n5_; have HB := n6_; clear n0_ n1_ n2_ n3_ n4_ n5_ n6_; (try clear hb); (try clear hb2); (try clear hk); (try clear hi)) | (go_at_call 22; (with_reducible refine (fact_Right.calls k _ _ t213 true _ ?side1 ?side2 A16.out).mono ?_); (case side1 => repeat (first | exact (Kd.R_reads' HO216.out).2.2 | (with_reducible refine Kd.C_alloc ?_ _) | (with_reducible refine Kd.C_drewN ?_ _) | (with_reducible refine Kd.C_drew ?_))); (case side2 => exact (Kd.R_reads' HO216.out).2.1); rintro e w41 ⟨rfl, hb⟩; have n0_ := Aside0.mk (Kd.R_below (kr HO212) hb); have n1_ := Aside0.mk (Kd.R_below (kr HO216) hb); have n2_ := Aside0.mk (Kd.R_below (kr HO221) hb); have n3_ := Aside0.mk (Kd.R_below (kr HO224) hb); have n4_ := Aside0.mk (blk_below (g := gb208) (o := .cells #[.string (⟨#[69]⟩ : ByteArray), .string (⟨#[97]⟩ : ByteArray), .string (⟨#[]⟩ : ByteArray), .string (⟨#[]⟩ : ByteArray), .int .i64 0] 44 (0, 0)) (by (with_reducible repeat (first | refine blk_drewN ?_ _ | refine blk_drew ?_ | refine blk_alloc ?_ _)); exact BK208.out) hb); have n5_ := Aside0.mk (blk_below (g := gb209) (o := .cells #[.string (⟨#[69]⟩ : ByteArray), .string (⟨#[98]⟩ : ByteArray), .string (⟨#[]⟩ : ByteArray), .string (⟨#[]⟩ : ByteArray), .int .i64 0] 44 (0, 0)) (by (with_reducible repeat (first | refine blk_drewN ?_ _ | refine blk_drew ?_ | refine blk_alloc ?_ _)); exact BK209.out) hb); have n6_ := Aside0.mk (below_step bx hb); clear HO212; clear HO216; clear HO221; clear HO224; clear BK208; clear BK209; clear HB; have HO212 := n0_; have HO216 := n1_; have HO221 := n2_; have HO224 := n3_; have BK208 := n4_; have BK209 := n5_; have HB := n6_; clear n0_ n1_ n2_ n3_ n4_ n5_ n6_; (try clear hb); (try clear hb2); (try clear hk); (try clear hi)) | (go_at_call 18; (with_reducible refine (fact_Pick.calls k _ _ t213 (⟨#[69]⟩ : ByteArray) 0 t230 _ ?side1 ?side2 A18.out).mono ?_); (case side1 => repeat (first | exact (Kd.R_reads' HO216.out).2.2 | (with_reducible refine Kd.C_alloc ?_ _) | (with_reducible refine Kd.C_drewN ?_ _) | (with_reducible refine Kd.C_drew ?_))); (case side2 => exact (Kd.R_reads' HO216.out).2.1); rintro e w42 ⟨v231, rfl, ho0, hb⟩; have n0_ := Aside0.mk (Kd.R_elder' (kr HO212) (Kd.R_base ho0) hb); have n1_ := Aside0.mk (Kd.R_elder' (kr HO216) (Kd.R_base ho0) hb); have n2_ := Aside0.mk (Kd.R_elder' (kr HO221) (Kd.R_base ho0) hb); have n3_ := Aside0.mk (Kd.R_elder' (kr HO224) (Kd.R_base ho0) hb); have n4_ := Aside0.mk (Kd.R_lower (Kd.R_new' (Kd.R_new' (Kd.R_new' (Kd.R_new' ho0 (Kd.R_lt (kr HO212))) (Kd.R_lt (kr HO216))) (Kd.R_lt (kr HO221))) (Kd.R_lt (kr HO224))) (below_size bx)); have n5_ := Aside0.mk (blk_below (g := gb208) (o := .cells #[.string (⟨#[69]⟩ : ByteArray), .string (⟨#[97]⟩ : ByteArray), .string (⟨#[]⟩ : ByteArray), .string (⟨#[]⟩ : ByteArray), .int .i64 0] 44 (0, 0)) (by (with_reducible repeat (first | refine blk_drewN ?_ _ | refine blk_drew ?_ | refine blk_alloc ?_ _)); exact BK208.out) hb); have n6_ := Aside0.mk (blk_below (g := gb209) (o := .cells #[.string (⟨#[69]⟩ : ByteArray), .string (⟨#[98]⟩ : ByteArray), .string (⟨#[]⟩ : ByteArray), .string (⟨#[]⟩ : ByteArray), .int .i64 0] 44 (0, 0)) (by (with_reducible repeat (first | refine blk_drewN ?_ _ | refine blk_drew ?_ | refine blk_alloc ?_ _)); exact BK209.out) hb); have n7_ := Aside0.mk (below_step bx hb); clear HO212; clear HO216; clear HO221; clear HO224; clear BK208; clear BK209; clear HB; have HO212 := n0_; have HO216 := n1_; have HO221 := n2_; have HO224 := n3_; have HO232 := n4_; have BK208 := n5_; have BK209 := n6_; have HB := n7_; clear n0_ n1_ n2_ n3_ n4_ n5_ n6_ n7_; (try clear hb); (try clear hb2); (try clear hk); (try clear hi); (try clear ho0); obtain ⟨Ao43, co43, eo43⟩ := Kd.R_slice HO232.out; subst eo43))
            go_ret
            exact ⟨re_, bx⟩
           ·replace c17 := Bool.eq_false_iff.mpr c17
            subst c17
            have H1 : (none) = some r := by rw [if_neg (show ¬ (false = true) by decide)] at H; exact H
            clear H; have H := H1; clear H1
            exact absurd H (by simp)
          ·rw [if_neg c15] at H
           exact absurd H (by simp)
         ·rw [if_neg c13] at H
          exact absurd H (by simp)
        ·rw [if_neg c11] at H
         exact absurd H (by simp)
       ·rw [if_neg c10] at H
        exact absurd H (by simp)
      ·rw [if_neg c9] at H
       exact absurd H (by simp)
     ·rw [if_neg c8] at H
      exact absurd H (by simp)
    ·rw [if_neg c7] at H
     exact absurd H (by simp)
   ·rw [if_neg c6] at H
    exact absurd H (by simp)
  ·rw [if_neg c5] at H
   exact absurd H (by simp)
 ·rw [if_neg c4] at H
  exact absurd H (by simp)
/-! ### comptrollerlaw09_Few: function 7 -/
def comptrollerlaw09_Few.l0 : Nat → List (S28) → List (S28) → Int → Int → Option (Bool)
 | 0, _, _, _, _ => none
 | k + 1, x0, x6, x7, x8 => if x8 < x7 then (if 0 ≤ x8 then (if x8 < (x6.length : Int) then (if (((rd_T28 x6 x8).f0.f0).size : Int) > 40 then (some false) else (if (((rd_T28 x6 x8).f0.f1).size : Int) > 40 then (some false) else (if (((rd_T28 x6 x8).f0.f2).size : Int) > 40 then (some false) else (if (((rd_T28 x6 x8).f0.f3).size : Int) > 40 then (some false) else (comptrollerlaw09_Few.l0 k x0 x6 x7 (wrap64 (x8 + 1))))))) else (none)) else (none)) else (some (decide ((x0.length : Int) ≤ 150)))
def comptrollerlaw09_Few.f (k : Nat) (l0 : List (S28)) : Option (Bool) := comptrollerlaw09_Few.l0 k l0 l0 (l0.length : Int) 0
theorem comptrollerlaw09_Few.mono_l : ∀ k, (∀ y0 y1 y2 y3, LeO (comptrollerlaw09_Few.l0 k y0 y1 y2 y3) (comptrollerlaw09_Few.l0 (k + 1) y0 y1 y2 y3))
 | 0 => fun _ _ _ _ r h => by simp [comptrollerlaw09_Few.l0] at h
 | k + 1 => by
  have ih0 := comptrollerlaw09_Few.mono_l k
  ·intro y0 y1 y2 y3
   unfold comptrollerlaw09_Few.l0
   with_reducible repeat' first | apply ih0 | refine LeO.refl _ | refine LeO.none _ | refine LeO.ite ?_ ?_ | refine LeO.bind ?_ (fun _ => ?_)
theorem comptrollerlaw09_Few.mono : ∀ a0 k, LeO (comptrollerlaw09_Few.f k a0) (comptrollerlaw09_Few.f (k + 1) a0) := by
 intro a0 k
 have ih0 := comptrollerlaw09_Few.mono_l k
 unfold comptrollerlaw09_Few.f
 with_reducible repeat' first | apply ih0 | refine LeO.refl _ | refine LeO.none _ | refine LeO.ite ?_ ?_ | refine LeO.bind ?_ (fun _ => ?_)
set_option maxHeartbeats 8000000 in
set_option maxRecDepth 100000 in
theorem comptrollerlaw09_Few.calls (k : Nat) (A0 : Option Addr) (c0 : Nat) (l0 : List (S28)) (r : Bool) (w : World) (hr0 : Kd.C k28 w A0 l0.length l0) (hc0 : l0.length ≤ c0) (h : comptrollerlaw09_Few.f k l0 = some r) :
  Calls Try.prog 7 #[.slice A0 l0.length c0] w fun e w' => e = .returned (.bool r) ∧ Below w.heap.size w w' := by
 have hu28 := Try.underlying28; have hu24 := Try.underlying24; have HR0 := Aside0.mk hr0; have HC0 := Aside0.mk hc0; clear hr0 hc0
 have HB := Aside0.mk (Below.refl w.heap.size w)
 have H : (comptrollerlaw09_Few.l0 k l0 l0 (l0.length : Int) 0) = some r := h
 clear h
 have H' := Aside0.mk H
 clear H
 go_enter Try.func7, Try.ntmps7
 go_wp2
 go_loopg [8] k (fun kq v8 w' => ∃ (x8_1 : Int), v8 = .int .i64 x8_1 ∧ Aside0 (comptrollerlaw09_Few.l0 kq l0 l0 (l0.length : Int) x8_1 = some r) ∧ Aside0 (kq ≤ k) ∧ Aside0 (Below w.heap.size w w'))
 case atStart => exact ⟨(0), rs_, H', ⟨Nat.le_refl _⟩, ⟨bw⟩⟩
 case round =>
  clear H'
  obtain ⟨x8_1, rfl, HA, HK1, HB⟩ := hrel
  cases gk with
  | zero => exact absurd HA.out (by simp [comptrollerlaw09_Few.l0])
  | succ k1 =>
   have H := HA.out; clear HA
   simp only [comptrollerlaw09_Few.l0] at H
   by_cases c2 : x8_1 < (l0.length : Int)
   ·rw [if_pos c2] at H
    have c2b0 : decide (x8_1 < (l0.length : Int)) = true := decide_eq_true c2
    clear c2
    by_cases c3 : 0 ≤ x8_1
    ·rw [if_pos c3] at H
     have c3b0 : decide (0 ≤ x8_1) = true := decide_eq_true c3
     clear c3
     by_cases c4 : x8_1 < (l0.length : Int)
     ·rw [if_pos c4] at H
      have c4b0 : decide (x8_1 < (l0.length : Int)) = true := decide_eq_true c4
      clear c4
      by_cases c5 : (((rd_T28 l0 x8_1).f0.f0).size : Int) > 40
      ·rw [if_pos c5] at H
       have c5b0 : decide (40 < (((rd_T28 l0 x8_1).f0.f0).size : Int)) = true := decide_eq_true c5
       have c5b1 : decide (40 < ((rd_T28 l0 x8_1).f0.f0).size) = true := decide_eq_true (by omega)
       clear c5
       obtain rfl := Option.some.inj H
       have p233 : 0 ≤ (x8_1 : Int) := of_decide_eq_true as_
       have q233 : x8_1 < (l0.length : Int) := of_decide_eq_true as_
       obtain ⟨ad233, e233, hx233_0, hx233_1, hx233_2, hx233_3, hx233_4, hx233_5⟩ := at_T28 HR0.out x8_1 p233 q233
       cases e233; replace hx233_0 := cb HB hx233_0; replace hx233_1 := cb HB hx233_1; replace hx233_2 := cb HB hx233_2; replace hx233_3 := cb HB hx233_3; replace hx233_4 := cb HB hx233_4; replace hx233_5 := cb HB hx233_5; replace p233 := eq_true p233; replace q233 := eq_true q233
       go_wp2_with (first | ((with_reducible refine gate_dst (N := 4) rfl ?_); (try (refine gate_guard (by rfl) ?_; dsimp only)); refine box_event ?hg (N := 4) ?hd (cs := #[.string (⟨#[]⟩ : ByteArray), .string (⟨#[]⟩ : ByteArray), .string (⟨#[]⟩ : ByteArray), .string (⟨#[]⟩ : ByteArray), .int .i64 0, .int .i64 0]) (t := 28) ?hr ?_; (case hd => rfl); (case hg => rfl); (case hr => first | (go_simp; done) | (go_simp; rfl)); intro gb234 hg w6 hbox hb; have n0_ := Aside0.mk (below_step bw hb); have n1_ := Aside0.mk (hbox); have n2_ := Aside0.mk ((by rw [hg]; exact (below_size bw) : w.heap.size ≤ gb234)); have n3_ := Aside0.mk ((by rw [hg]; exact (below_size bw) : w.heap.size ≤ gb234)); clear HB; have HB := n0_; have BK234 := n1_; have GW234 := n2_; have GE234 := n3_; clear n0_ n1_ n2_ n3_; clear hb hbox hg; obtain ⟨hcz7_0, hcz7_1, hcz7_2, hcz7_3, hcz7_4, hcz7_5⟩ := bc6 BK234.out; have hfz7_0 := blk_frozen BK234.out 0; have hfz7_1 := blk_frozen BK234.out 1; have hfz7_2 := blk_frozen BK234.out 2; have hfz7_3 := blk_frozen BK234.out 3; have hfz7_4 := blk_frozen BK234.out 4; have hfz7_5 := blk_frozen BK234.out 5) | ((with_reducible refine gate_dst (N := 5) rfl ?_); (try (refine gate_guard (by rfl) ?_; dsimp only)); refine box_event ?hg (N := 5) ?hd (cs := #[.string (⟨#[]⟩ : ByteArray), .string (⟨#[]⟩ : ByteArray), .string (⟨#[]⟩ : ByteArray), .string (⟨#[]⟩ : ByteArray), .int .i64 0]) (t := 24) ?hr ?_; (case hd => rfl); (case hg => rfl); (case hr => first | (go_simp; done) | (go_simp; rfl)); intro gb235 hg w8 hbox hb; have n0_ := Aside0.mk (blk_below (g := gb234) (o := .cells #[.string ((rd_T28 l0 x8_1).f0.f0), .string ((rd_T28 l0 x8_1).f0.f1), .string ((rd_T28 l0 x8_1).f0.f2), .string ((rd_T28 l0 x8_1).f0.f3), .int .i64 ((rd_T28 l0 x8_1).f0.f4), .int .i64 ((rd_T28 l0 x8_1).f1)] 28 (0, 0)) (bp28 BK234 (rd_T28 l0 x8_1)) hb); have n1_ := Aside0.mk (below_step bx hb); have n2_ := Aside0.mk (hbox); have n3_ := Aside0.mk ((by rw [hg]; exact (below_size bx) : w.heap.size ≤ gb235)); have n4_ := Aside0.mk ((by rw [hg]; exact (below_size bx) : w.heap.size ≤ gb235)); have n5_ := Aside0.mk ((by rw [hg]; exact Nat.ne_of_lt (blk_lt (g := gb234) (o := .cells #[.string ((rd_T28 l0 x8_1).f0.f0), .string ((rd_T28 l0 x8_1).f0.f1), .string ((rd_T28 l0 x8_1).f0.f2), .string ((rd_T28 l0 x8_1).f0.f3), .int .i64 ((rd_T28 l0 x8_1).f0.f4), .int .i64 ((rd_T28 l0 x8_1).f1)] 28 (0, 0)) (bp28 BK234 (rd_T28 l0 x8_1))) : gb234 ≠ gb235)); have n6_ := Aside0.mk ((by rw [hg]; exact Nat.ne_of_gt (blk_lt (g := gb234) (o := .cells #[.string ((rd_T28 l0 x8_1).f0.f0), .string ((rd_T28 l0 x8_1).f0.f1), .string ((rd_T28 l0 x8_1).f0.f2), .string ((rd_T28 l0 x8_1).f0.f3), .int .i64 ((rd_T28 l0 x8_1).f0.f4), .int .i64 ((rd_T28 l0 x8_1).f1)] 28 (0, 0)) (bp28 BK234 (rd_T28 l0 x8_1))) : gb235 ≠ gb234)); clear BK234; clear HB; have BK234 := n0_; have HB := n1_; have BK235 := n2_; have GW235 := n3_; have GE235 := n4_; have NB234_235 := n5_; have NB235_234 := n6_; clear n0_ n1_ n2_ n3_ n4_ n5_ n6_; clear hb hbox hg; have hnb9 := NB235_234.out; have hnc9 := NB234_235.out; obtain ⟨hcz10_0, hcz10_1, hcz10_2, hcz10_3, hcz10_4⟩ := bc5 BK235.out; have hfz10_0 := blk_frozen BK235.out 0; have hfz10_1 := blk_frozen BK235.out 1; have hfz10_2 := blk_frozen BK235.out 2; have hfz10_3 := blk_frozen BK235.out 3; have hfz10_4 := blk_frozen BK235.out 4))
       go_ret
       exact ⟨re_, bx⟩
      ·rw [if_neg c5] at H
       have c5b0 : decide (40 < (((rd_T28 l0 x8_1).f0.f0).size : Int)) = false := decide_eq_false c5
       have c5b1 : decide (40 < ((rd_T28 l0 x8_1).f0.f0).size) = false := decide_eq_false (by omega)
       clear c5
       by_cases c11 : (((rd_T28 l0 x8_1).f0.f1).size : Int) > 40
       ·rw [if_pos c11] at H
        have c11b0 : decide (40 < (((rd_T28 l0 x8_1).f0.f1).size : Int)) = true := decide_eq_true c11
        have c11b1 : decide (40 < ((rd_T28 l0 x8_1).f0.f1).size) = true := decide_eq_true (by omega)
        clear c11
        obtain rfl := Option.some.inj H
        have p233 : 0 ≤ (x8_1 : Int) := of_decide_eq_true as_
        have q233 : x8_1 < (l0.length : Int) := of_decide_eq_true as_
        obtain ⟨ad233, e233, hx233_0, hx233_1, hx233_2, hx233_3, hx233_4, hx233_5⟩ := at_T28 HR0.out x8_1 p233 q233
        cases e233; replace hx233_0 := cb HB hx233_0; replace hx233_1 := cb HB hx233_1; replace hx233_2 := cb HB hx233_2; replace hx233_3 := cb HB hx233_3; replace hx233_4 := cb HB hx233_4; replace hx233_5 := cb HB hx233_5; replace p233 := eq_true p233; replace q233 := eq_true q233
        go_wp2_with (first | ((with_reducible refine gate_dst (N := 4) rfl ?_); (try (refine gate_guard (by rfl) ?_; dsimp only)); refine box_event ?hg (N := 4) ?hd (cs := #[.string (⟨#[]⟩ : ByteArray), .string (⟨#[]⟩ : ByteArray), .string (⟨#[]⟩ : ByteArray), .string (⟨#[]⟩ : ByteArray), .int .i64 0, .int .i64 0]) (t := 28) ?hr ?_; (case hd => rfl); (case hg => rfl); (case hr => first | (go_simp; done) | (go_simp; rfl)); intro gb234 hg w12 hbox hb; have n0_ := Aside0.mk (below_step bw hb); have n1_ := Aside0.mk (hbox); have n2_ := Aside0.mk ((by rw [hg]; exact (below_size bw) : w.heap.size ≤ gb234)); have n3_ := Aside0.mk ((by rw [hg]; exact (below_size bw) : w.heap.size ≤ gb234)); clear HB; have HB := n0_; have BK234 := n1_; have GW234 := n2_; have GE234 := n3_; clear n0_ n1_ n2_ n3_; clear hb hbox hg; obtain ⟨hcz13_0, hcz13_1, hcz13_2, hcz13_3, hcz13_4, hcz13_5⟩ := bc6 BK234.out; have hfz13_0 := blk_frozen BK234.out 0; have hfz13_1 := blk_frozen BK234.out 1; have hfz13_2 := blk_frozen BK234.out 2; have hfz13_3 := blk_frozen BK234.out 3; have hfz13_4 := blk_frozen BK234.out 4; have hfz13_5 := blk_frozen BK234.out 5) | ((with_reducible refine gate_dst (N := 5) rfl ?_); (try (refine gate_guard (by rfl) ?_; dsimp only)); refine box_event ?hg (N := 5) ?hd (cs := #[.string (⟨#[]⟩ : ByteArray), .string (⟨#[]⟩ : ByteArray), .string (⟨#[]⟩ : ByteArray), .string (⟨#[]⟩ : ByteArray), .int .i64 0]) (t := 24) ?hr ?_; (case hd => rfl); (case hg => rfl); (case hr => first | (go_simp; done) | (go_simp; rfl)); intro gb235 hg w14 hbox hb; have n0_ := Aside0.mk (blk_below (g := gb234) (o := .cells #[.string ((rd_T28 l0 x8_1).f0.f0), .string ((rd_T28 l0 x8_1).f0.f1), .string ((rd_T28 l0 x8_1).f0.f2), .string ((rd_T28 l0 x8_1).f0.f3), .int .i64 ((rd_T28 l0 x8_1).f0.f4), .int .i64 ((rd_T28 l0 x8_1).f1)] 28 (0, 0)) (bp28 BK234 (rd_T28 l0 x8_1)) hb); have n1_ := Aside0.mk (below_step bx hb); have n2_ := Aside0.mk (hbox); have n3_ := Aside0.mk ((by rw [hg]; exact (below_size bx) : w.heap.size ≤ gb235)); have n4_ := Aside0.mk ((by rw [hg]; exact (below_size bx) : w.heap.size ≤ gb235)); have n5_ := Aside0.mk ((by rw [hg]; exact Nat.ne_of_lt (blk_lt (g := gb234) (o := .cells #[.string ((rd_T28 l0 x8_1).f0.f0), .string ((rd_T28 l0 x8_1).f0.f1), .string ((rd_T28 l0 x8_1).f0.f2), .string ((rd_T28 l0 x8_1).f0.f3), .int .i64 ((rd_T28 l0 x8_1).f0.f4), .int .i64 ((rd_T28 l0 x8_1).f1)] 28 (0, 0)) (bp28 BK234 (rd_T28 l0 x8_1))) : gb234 ≠ gb235)); have n6_ := Aside0.mk ((by rw [hg]; exact Nat.ne_of_gt (blk_lt (g := gb234) (o := .cells #[.string ((rd_T28 l0 x8_1).f0.f0), .string ((rd_T28 l0 x8_1).f0.f1), .string ((rd_T28 l0 x8_1).f0.f2), .string ((rd_T28 l0 x8_1).f0.f3), .int .i64 ((rd_T28 l0 x8_1).f0.f4), .int .i64 ((rd_T28 l0 x8_1).f1)] 28 (0, 0)) (bp28 BK234 (rd_T28 l0 x8_1))) : gb235 ≠ gb234)); clear BK234; clear HB; have BK234 := n0_; have HB := n1_; have BK235 := n2_; have GW235 := n3_; have GE235 := n4_; have NB234_235 := n5_; have NB235_234 := n6_; clear n0_ n1_ n2_ n3_ n4_ n5_ n6_; clear hb hbox hg; have hnb15 := NB235_234.out; have hnc15 := NB234_235.out; obtain ⟨hcz16_0, hcz16_1, hcz16_2, hcz16_3, hcz16_4⟩ := bc5 BK235.out; have hfz16_0 := blk_frozen BK235.out 0; have hfz16_1 := blk_frozen BK235.out 1; have hfz16_2 := blk_frozen BK235.out 2; have hfz16_3 := blk_frozen BK235.out 3; have hfz16_4 := blk_frozen BK235.out 4))
        go_ret
        exact ⟨re_, bx⟩
       ·rw [if_neg c11] at H
        have c11b0 : decide (40 < (((rd_T28 l0 x8_1).f0.f1).size : Int)) = false := decide_eq_false c11
        have c11b1 : decide (40 < ((rd_T28 l0 x8_1).f0.f1).size) = false := decide_eq_false (by omega)
        clear c11
        by_cases c17 : (((rd_T28 l0 x8_1).f0.f2).size : Int) > 40
        ·rw [if_pos c17] at H
         have c17b0 : decide (40 < (((rd_T28 l0 x8_1).f0.f2).size : Int)) = true := decide_eq_true c17
         have c17b1 : decide (40 < ((rd_T28 l0 x8_1).f0.f2).size) = true := decide_eq_true (by omega)
         clear c17
         obtain rfl := Option.some.inj H
         have p233 : 0 ≤ (x8_1 : Int) := of_decide_eq_true as_
         have q233 : x8_1 < (l0.length : Int) := of_decide_eq_true as_
         obtain ⟨ad233, e233, hx233_0, hx233_1, hx233_2, hx233_3, hx233_4, hx233_5⟩ := at_T28 HR0.out x8_1 p233 q233
         cases e233; replace hx233_0 := cb HB hx233_0; replace hx233_1 := cb HB hx233_1; replace hx233_2 := cb HB hx233_2; replace hx233_3 := cb HB hx233_3; replace hx233_4 := cb HB hx233_4; replace hx233_5 := cb HB hx233_5; replace p233 := eq_true p233; replace q233 := eq_true q233
         go_wp2_with (first | ((with_reducible refine gate_dst (N := 4) rfl ?_); (try (refine gate_guard (by rfl) ?_; dsimp only)); refine box_event ?hg (N := 4) ?hd (cs := #[.string (⟨#[]⟩ : ByteArray), .string (⟨#[]⟩ : ByteArray), .string (⟨#[]⟩ : ByteArray), .string (⟨#[]⟩ : ByteArray), .int .i64 0, .int .i64 0]) (t := 28) ?hr ?_; (case hd => rfl); (case hg => rfl); (case hr => first | (go_simp; done) | (go_simp; rfl)); intro gb234 hg w18 hbox hb; have n0_ := Aside0.mk (below_step bw hb); have n1_ := Aside0.mk (hbox); have n2_ := Aside0.mk ((by rw [hg]; exact (below_size bw) : w.heap.size ≤ gb234)); have n3_ := Aside0.mk ((by rw [hg]; exact (below_size bw) : w.heap.size ≤ gb234)); clear HB; have HB := n0_; have BK234 := n1_; have GW234 := n2_; have GE234 := n3_; clear n0_ n1_ n2_ n3_; clear hb hbox hg; obtain ⟨hcz19_0, hcz19_1, hcz19_2, hcz19_3, hcz19_4, hcz19_5⟩ := bc6 BK234.out; have hfz19_0 := blk_frozen BK234.out 0; have hfz19_1 := blk_frozen BK234.out 1; have hfz19_2 := blk_frozen BK234.out 2; have hfz19_3 := blk_frozen BK234.out 3; have hfz19_4 := blk_frozen BK234.out 4; have hfz19_5 := blk_frozen BK234.out 5) | ((with_reducible refine gate_dst (N := 5) rfl ?_); (try (refine gate_guard (by rfl) ?_; dsimp only)); refine box_event ?hg (N := 5) ?hd (cs := #[.string (⟨#[]⟩ : ByteArray), .string (⟨#[]⟩ : ByteArray), .string (⟨#[]⟩ : ByteArray), .string (⟨#[]⟩ : ByteArray), .int .i64 0]) (t := 24) ?hr ?_; (case hd => rfl); (case hg => rfl); (case hr => first | (go_simp; done) | (go_simp; rfl)); intro gb235 hg w20 hbox hb; have n0_ := Aside0.mk (blk_below (g := gb234) (o := .cells #[.string ((rd_T28 l0 x8_1).f0.f0), .string ((rd_T28 l0 x8_1).f0.f1), .string ((rd_T28 l0 x8_1).f0.f2), .string ((rd_T28 l0 x8_1).f0.f3), .int .i64 ((rd_T28 l0 x8_1).f0.f4), .int .i64 ((rd_T28 l0 x8_1).f1)] 28 (0, 0)) (bp28 BK234 (rd_T28 l0 x8_1)) hb); have n1_ := Aside0.mk (below_step bx hb); have n2_ := Aside0.mk (hbox); have n3_ := Aside0.mk ((by rw [hg]; exact (below_size bx) : w.heap.size ≤ gb235)); have n4_ := Aside0.mk ((by rw [hg]; exact (below_size bx) : w.heap.size ≤ gb235)); have n5_ := Aside0.mk ((by rw [hg]; exact Nat.ne_of_lt (blk_lt (g := gb234) (o := .cells #[.string ((rd_T28 l0 x8_1).f0.f0), .string ((rd_T28 l0 x8_1).f0.f1), .string ((rd_T28 l0 x8_1).f0.f2), .string ((rd_T28 l0 x8_1).f0.f3), .int .i64 ((rd_T28 l0 x8_1).f0.f4), .int .i64 ((rd_T28 l0 x8_1).f1)] 28 (0, 0)) (bp28 BK234 (rd_T28 l0 x8_1))) : gb234 ≠ gb235)); have n6_ := Aside0.mk ((by rw [hg]; exact Nat.ne_of_gt (blk_lt (g := gb234) (o := .cells #[.string ((rd_T28 l0 x8_1).f0.f0), .string ((rd_T28 l0 x8_1).f0.f1), .string ((rd_T28 l0 x8_1).f0.f2), .string ((rd_T28 l0 x8_1).f0.f3), .int .i64 ((rd_T28 l0 x8_1).f0.f4), .int .i64 ((rd_T28 l0 x8_1).f1)] 28 (0, 0)) (bp28 BK234 (rd_T28 l0 x8_1))) : gb235 ≠ gb234)); clear BK234; clear HB; have BK234 := n0_; have HB := n1_; have BK235 := n2_; have GW235 := n3_; have GE235 := n4_; have NB234_235 := n5_; have NB235_234 := n6_; clear n0_ n1_ n2_ n3_ n4_ n5_ n6_; clear hb hbox hg; have hnb21 := NB235_234.out; have hnc21 := NB234_235.out; obtain ⟨hcz22_0, hcz22_1, hcz22_2, hcz22_3, hcz22_4⟩ := bc5 BK235.out; have hfz22_0 := blk_frozen BK235.out 0; have hfz22_1 := blk_frozen BK235.out 1; have hfz22_2 := blk_frozen BK235.out 2; have hfz22_3 := blk_frozen BK235.out 3; have hfz22_4 := blk_frozen BK235.out 4))
         go_ret
         exact ⟨re_, bx⟩
        ·rw [if_neg c17] at H
         have c17b0 : decide (40 < (((rd_T28 l0 x8_1).f0.f2).size : Int)) = false := decide_eq_false c17
         have c17b1 : decide (40 < ((rd_T28 l0 x8_1).f0.f2).size) = false := decide_eq_false (by omega)
         clear c17
         by_cases c23 : (((rd_T28 l0 x8_1).f0.f3).size : Int) > 40
         ·rw [if_pos c23] at H
          have c23b0 : decide (40 < (((rd_T28 l0 x8_1).f0.f3).size : Int)) = true := decide_eq_true c23
          have c23b1 : decide (40 < ((rd_T28 l0 x8_1).f0.f3).size) = true := decide_eq_true (by omega)
          clear c23
          obtain rfl := Option.some.inj H
          have p233 : 0 ≤ (x8_1 : Int) := of_decide_eq_true as_
          have q233 : x8_1 < (l0.length : Int) := of_decide_eq_true as_
          obtain ⟨ad233, e233, hx233_0, hx233_1, hx233_2, hx233_3, hx233_4, hx233_5⟩ := at_T28 HR0.out x8_1 p233 q233
          cases e233; replace hx233_0 := cb HB hx233_0; replace hx233_1 := cb HB hx233_1; replace hx233_2 := cb HB hx233_2; replace hx233_3 := cb HB hx233_3; replace hx233_4 := cb HB hx233_4; replace hx233_5 := cb HB hx233_5; replace p233 := eq_true p233; replace q233 := eq_true q233
          go_wp2_with (first | ((with_reducible refine gate_dst (N := 4) rfl ?_); (try (refine gate_guard (by rfl) ?_; dsimp only)); refine box_event ?hg (N := 4) ?hd (cs := #[.string (⟨#[]⟩ : ByteArray), .string (⟨#[]⟩ : ByteArray), .string (⟨#[]⟩ : ByteArray), .string (⟨#[]⟩ : ByteArray), .int .i64 0, .int .i64 0]) (t := 28) ?hr ?_; (case hd => rfl); (case hg => rfl); (case hr => first | (go_simp; done) | (go_simp; rfl)); intro gb234 hg w24 hbox hb; have n0_ := Aside0.mk (below_step bw hb); have n1_ := Aside0.mk (hbox); have n2_ := Aside0.mk ((by rw [hg]; exact (below_size bw) : w.heap.size ≤ gb234)); have n3_ := Aside0.mk ((by rw [hg]; exact (below_size bw) : w.heap.size ≤ gb234)); clear HB; have HB := n0_; have BK234 := n1_; have GW234 := n2_; have GE234 := n3_; clear n0_ n1_ n2_ n3_; clear hb hbox hg; obtain ⟨hcz25_0, hcz25_1, hcz25_2, hcz25_3, hcz25_4, hcz25_5⟩ := bc6 BK234.out; have hfz25_0 := blk_frozen BK234.out 0; have hfz25_1 := blk_frozen BK234.out 1; have hfz25_2 := blk_frozen BK234.out 2; have hfz25_3 := blk_frozen BK234.out 3; have hfz25_4 := blk_frozen BK234.out 4; have hfz25_5 := blk_frozen BK234.out 5) | ((with_reducible refine gate_dst (N := 5) rfl ?_); (try (refine gate_guard (by rfl) ?_; dsimp only)); refine box_event ?hg (N := 5) ?hd (cs := #[.string (⟨#[]⟩ : ByteArray), .string (⟨#[]⟩ : ByteArray), .string (⟨#[]⟩ : ByteArray), .string (⟨#[]⟩ : ByteArray), .int .i64 0]) (t := 24) ?hr ?_; (case hd => rfl); (case hg => rfl); (case hr => first | (go_simp; done) | (go_simp; rfl)); intro gb235 hg w26 hbox hb; have n0_ := Aside0.mk (blk_below (g := gb234) (o := .cells #[.string ((rd_T28 l0 x8_1).f0.f0), .string ((rd_T28 l0 x8_1).f0.f1), .string ((rd_T28 l0 x8_1).f0.f2), .string ((rd_T28 l0 x8_1).f0.f3), .int .i64 ((rd_T28 l0 x8_1).f0.f4), .int .i64 ((rd_T28 l0 x8_1).f1)] 28 (0, 0)) (bp28 BK234 (rd_T28 l0 x8_1)) hb); have n1_ := Aside0.mk (below_step bx hb); have n2_ := Aside0.mk (hbox); have n3_ := Aside0.mk ((by rw [hg]; exact (below_size bx) : w.heap.size ≤ gb235)); have n4_ := Aside0.mk ((by rw [hg]; exact (below_size bx) : w.heap.size ≤ gb235)); have n5_ := Aside0.mk ((by rw [hg]; exact Nat.ne_of_lt (blk_lt (g := gb234) (o := .cells #[.string ((rd_T28 l0 x8_1).f0.f0), .string ((rd_T28 l0 x8_1).f0.f1), .string ((rd_T28 l0 x8_1).f0.f2), .string ((rd_T28 l0 x8_1).f0.f3), .int .i64 ((rd_T28 l0 x8_1).f0.f4), .int .i64 ((rd_T28 l0 x8_1).f1)] 28 (0, 0)) (bp28 BK234 (rd_T28 l0 x8_1))) : gb234 ≠ gb235)); have n6_ := Aside0.mk ((by rw [hg]; exact Nat.ne_of_gt (blk_lt (g := gb234) (o := .cells #[.string ((rd_T28 l0 x8_1).f0.f0), .string ((rd_T28 l0 x8_1).f0.f1), .string ((rd_T28 l0 x8_1).f0.f2), .string ((rd_T28 l0 x8_1).f0.f3), .int .i64 ((rd_T28 l0 x8_1).f0.f4), .int .i64 ((rd_T28 l0 x8_1).f1)] 28 (0, 0)) (bp28 BK234 (rd_T28 l0 x8_1))) : gb235 ≠ gb234)); clear BK234; clear HB; have BK234 := n0_; have HB := n1_; have BK235 := n2_; have GW235 := n3_; have GE235 := n4_; have NB234_235 := n5_; have NB235_234 := n6_; clear n0_ n1_ n2_ n3_ n4_ n5_ n6_; clear hb hbox hg; have hnb27 := NB235_234.out; have hnc27 := NB234_235.out; obtain ⟨hcz28_0, hcz28_1, hcz28_2, hcz28_3, hcz28_4⟩ := bc5 BK235.out; have hfz28_0 := blk_frozen BK235.out 0; have hfz28_1 := blk_frozen BK235.out 1; have hfz28_2 := blk_frozen BK235.out 2; have hfz28_3 := blk_frozen BK235.out 3; have hfz28_4 := blk_frozen BK235.out 4))
          go_ret
          exact ⟨re_, bx⟩
         ·rw [if_neg c23] at H
          have c23b0 : decide (40 < (((rd_T28 l0 x8_1).f0.f3).size : Int)) = false := decide_eq_false c23
          have c23b1 : decide (40 < ((rd_T28 l0 x8_1).f0.f3).size) = false := decide_eq_false (by omega)
          clear c23
          have H' := Aside0.mk H
          clear H
          have p233 : 0 ≤ (x8_1 : Int) := of_decide_eq_true as_
          have q233 : x8_1 < (l0.length : Int) := of_decide_eq_true as_
          obtain ⟨ad233, e233, hx233_0, hx233_1, hx233_2, hx233_3, hx233_4, hx233_5⟩ := at_T28 HR0.out x8_1 p233 q233
          cases e233; replace hx233_0 := cb HB hx233_0; replace hx233_1 := cb HB hx233_1; replace hx233_2 := cb HB hx233_2; replace hx233_3 := cb HB hx233_3; replace hx233_4 := cb HB hx233_4; replace hx233_5 := cb HB hx233_5; replace p233 := eq_true p233; replace q233 := eq_true q233
          go_wp2_with (first | ((with_reducible refine gate_dst (N := 4) rfl ?_); (try (refine gate_guard (by rfl) ?_; dsimp only)); refine box_event ?hg (N := 4) ?hd (cs := #[.string (⟨#[]⟩ : ByteArray), .string (⟨#[]⟩ : ByteArray), .string (⟨#[]⟩ : ByteArray), .string (⟨#[]⟩ : ByteArray), .int .i64 0, .int .i64 0]) (t := 28) ?hr ?_; (case hd => rfl); (case hg => rfl); (case hr => first | (go_simp; done) | (go_simp; rfl)); intro gb234 hg w29 hbox hb; have n0_ := Aside0.mk (below_step bw hb); have n1_ := Aside0.mk (hbox); have n2_ := Aside0.mk ((by rw [hg]; exact (below_size bw) : w.heap.size ≤ gb234)); have n3_ := Aside0.mk ((by rw [hg]; exact (below_size bw) : w.heap.size ≤ gb234)); clear HB; have HB := n0_; have BK234 := n1_; have GW234 := n2_; have GE234 := n3_; clear n0_ n1_ n2_ n3_; clear hb hbox hg; obtain ⟨hcz30_0, hcz30_1, hcz30_2, hcz30_3, hcz30_4, hcz30_5⟩ := bc6 BK234.out; have hfz30_0 := blk_frozen BK234.out 0; have hfz30_1 := blk_frozen BK234.out 1; have hfz30_2 := blk_frozen BK234.out 2; have hfz30_3 := blk_frozen BK234.out 3; have hfz30_4 := blk_frozen BK234.out 4; have hfz30_5 := blk_frozen BK234.out 5) | ((with_reducible refine gate_dst (N := 5) rfl ?_); (try (refine gate_guard (by rfl) ?_; dsimp only)); refine box_event ?hg (N := 5) ?hd (cs := #[.string (⟨#[]⟩ : ByteArray), .string (⟨#[]⟩ : ByteArray), .string (⟨#[]⟩ : ByteArray), .string (⟨#[]⟩ : ByteArray), .int .i64 0]) (t := 24) ?hr ?_; (case hd => rfl); (case hg => rfl); (case hr => first | (go_simp; done) | (go_simp; rfl)); intro gb235 hg w31 hbox hb; have n0_ := Aside0.mk (blk_below (g := gb234) (o := .cells #[.string ((rd_T28 l0 x8_1).f0.f0), .string ((rd_T28 l0 x8_1).f0.f1), .string ((rd_T28 l0 x8_1).f0.f2), .string ((rd_T28 l0 x8_1).f0.f3), .int .i64 ((rd_T28 l0 x8_1).f0.f4), .int .i64 ((rd_T28 l0 x8_1).f1)] 28 (0, 0)) (bp28 BK234 (rd_T28 l0 x8_1)) hb); have n1_ := Aside0.mk (below_step bx hb); have n2_ := Aside0.mk (hbox); have n3_ := Aside0.mk ((by rw [hg]; exact (below_size bx) : w.heap.size ≤ gb235)); have n4_ := Aside0.mk ((by rw [hg]; exact (below_size bx) : w.heap.size ≤ gb235)); have n5_ := Aside0.mk ((by rw [hg]; exact Nat.ne_of_lt (blk_lt (g := gb234) (o := .cells #[.string ((rd_T28 l0 x8_1).f0.f0), .string ((rd_T28 l0 x8_1).f0.f1), .string ((rd_T28 l0 x8_1).f0.f2), .string ((rd_T28 l0 x8_1).f0.f3), .int .i64 ((rd_T28 l0 x8_1).f0.f4), .int .i64 ((rd_T28 l0 x8_1).f1)] 28 (0, 0)) (bp28 BK234 (rd_T28 l0 x8_1))) : gb234 ≠ gb235)); have n6_ := Aside0.mk ((by rw [hg]; exact Nat.ne_of_gt (blk_lt (g := gb234) (o := .cells #[.string ((rd_T28 l0 x8_1).f0.f0), .string ((rd_T28 l0 x8_1).f0.f1), .string ((rd_T28 l0 x8_1).f0.f2), .string ((rd_T28 l0 x8_1).f0.f3), .int .i64 ((rd_T28 l0 x8_1).f0.f4), .int .i64 ((rd_T28 l0 x8_1).f1)] 28 (0, 0)) (bp28 BK234 (rd_T28 l0 x8_1))) : gb235 ≠ gb234)); clear BK234; clear HB; have BK234 := n0_; have HB := n1_; have BK235 := n2_; have GW235 := n3_; have GE235 := n4_; have NB234_235 := n5_; have NB235_234 := n6_; clear n0_ n1_ n2_ n3_ n4_ n5_ n6_; clear hb hbox hg; have hnb32 := NB235_234.out; have hnc32 := NB234_235.out; obtain ⟨hcz33_0, hcz33_1, hcz33_2, hcz33_3, hcz33_4⟩ := bc5 BK235.out; have hfz33_0 := blk_frozen BK235.out 0; have hfz33_1 := blk_frozen BK235.out 1; have hfz33_2 := blk_frozen BK235.out 2; have hfz33_3 := blk_frozen BK235.out 3; have hfz33_4 := blk_frozen BK235.out 4))
          go_roundg k1
          case measure => have := HK1.out; omega
          case rel => exact ⟨(wrap64 (x8_1 + 1)), rs_, H', ⟨by have := HK1.out; omega⟩, ⟨bx⟩⟩
     ·rw [if_neg c4] at H
      exact absurd H (by simp)
    ·rw [if_neg c3] at H
     exact absurd H (by simp)
   ·rw [if_neg c2] at H
    have c2b0 : decide (x8_1 < (l0.length : Int)) = false := decide_eq_false c2
    clear c2
    obtain rfl := Option.some.inj H
    go_wp2; go_ret
    exact ⟨re_, bw⟩
/-! ### comptrollerlaw09_small: function 20 -/
def comptrollerlaw09_small.l0 : Nat → List (S28) → Int → Int → Option (Bool)
 | 0, _, _, _ => none
 | k + 1, x5, x6, x7 => if x7 < x6 then (if 0 ≤ x7 then (if x7 < (x5.length : Int) then (if ((rd_T28 x5 x7).f1) > 4503599627370496 then (some false) else (if ((rd_T28 x5 x7).f1) < (-4503599627370496) then (some false) else (comptrollerlaw09_small.l0 k x5 x6 (wrap64 (x7 + 1))))) else (none)) else (none)) else (some true)
def comptrollerlaw09_small.f (k : Nat) (l0 : List (S28)) : Option (Bool) := comptrollerlaw09_small.l0 k l0 (l0.length : Int) 0
theorem comptrollerlaw09_small.mono_l : ∀ k, (∀ y0 y1 y2, LeO (comptrollerlaw09_small.l0 k y0 y1 y2) (comptrollerlaw09_small.l0 (k + 1) y0 y1 y2))
 | 0 => fun _ _ _ r h => by simp [comptrollerlaw09_small.l0] at h
 | k + 1 => by
  have ih0 := comptrollerlaw09_small.mono_l k
  ·intro y0 y1 y2
   unfold comptrollerlaw09_small.l0
   with_reducible repeat' first | apply ih0 | refine LeO.refl _ | refine LeO.none _ | refine LeO.ite ?_ ?_ | refine LeO.bind ?_ (fun _ => ?_)
theorem comptrollerlaw09_small.mono : ∀ a0 k, LeO (comptrollerlaw09_small.f k a0) (comptrollerlaw09_small.f (k + 1) a0) := by
 intro a0 k
 have ih0 := comptrollerlaw09_small.mono_l k
 unfold comptrollerlaw09_small.f
 with_reducible repeat' first | apply ih0 | refine LeO.refl _ | refine LeO.none _ | refine LeO.ite ?_ ?_ | refine LeO.bind ?_ (fun _ => ?_)
set_option maxHeartbeats 8000000 in
set_option maxRecDepth 100000 in
theorem comptrollerlaw09_small.calls (k : Nat) (A0 : Option Addr) (c0 : Nat) (l0 : List (S28)) (r : Bool) (w : World) (hr0 : Kd.C k28 w A0 l0.length l0) (hc0 : l0.length ≤ c0) (h : comptrollerlaw09_small.f k l0 = some r) :
  Calls Try.prog 20 #[.slice A0 l0.length c0] w fun e w' => e = .returned (.bool r) ∧ Below w.heap.size w w' := by
 have hu28 := Try.underlying28; have HR0 := Aside0.mk hr0; have HC0 := Aside0.mk hc0; clear hr0 hc0
 have HB := Aside0.mk (Below.refl w.heap.size w)
 have H : (comptrollerlaw09_small.l0 k l0 (l0.length : Int) 0) = some r := h
 clear h
 have H' := Aside0.mk H
 clear H
 go_enter Try.func20, Try.ntmps20
 go_wp2
 go_loopg [7] k (fun kq v7 w' => ∃ (x7_1 : Int), v7 = .int .i64 x7_1 ∧ Aside0 (comptrollerlaw09_small.l0 kq l0 (l0.length : Int) x7_1 = some r) ∧ Aside0 (kq ≤ k) ∧ Aside0 (Below w.heap.size w w'))
 case atStart => exact ⟨(0), rs_, H', ⟨Nat.le_refl _⟩, ⟨bw⟩⟩
 case round =>
  clear H'
  obtain ⟨x7_1, rfl, HA, HK1, HB⟩ := hrel
  cases gk with
  | zero => exact absurd HA.out (by simp [comptrollerlaw09_small.l0])
  | succ k1 =>
   have H := HA.out; clear HA
   simp only [comptrollerlaw09_small.l0] at H
   by_cases c2 : x7_1 < (l0.length : Int)
   ·rw [if_pos c2] at H
    have c2b0 : decide (x7_1 < (l0.length : Int)) = true := decide_eq_true c2
    clear c2
    by_cases c3 : 0 ≤ x7_1
    ·rw [if_pos c3] at H
     have c3b0 : decide (0 ≤ x7_1) = true := decide_eq_true c3
     clear c3
     by_cases c4 : x7_1 < (l0.length : Int)
     ·rw [if_pos c4] at H
      have c4b0 : decide (x7_1 < (l0.length : Int)) = true := decide_eq_true c4
      clear c4
      by_cases c5 : ((rd_T28 l0 x7_1).f1) > 4503599627370496
      ·rw [if_pos c5] at H
       have c5b0 : decide (4503599627370496 < ((rd_T28 l0 x7_1).f1)) = true := decide_eq_true c5
       clear c5
       obtain rfl := Option.some.inj H
       have p435 : 0 ≤ (x7_1 : Int) := of_decide_eq_true as_
       have q435 : x7_1 < (l0.length : Int) := of_decide_eq_true as_
       obtain ⟨ad435, e435, hx435_0, hx435_1, hx435_2, hx435_3, hx435_4, hx435_5⟩ := at_T28 HR0.out x7_1 p435 q435
       cases e435; replace hx435_0 := cb HB hx435_0; replace hx435_1 := cb HB hx435_1; replace hx435_2 := cb HB hx435_2; replace hx435_3 := cb HB hx435_3; replace hx435_4 := cb HB hx435_4; replace hx435_5 := cb HB hx435_5; replace p435 := eq_true p435; replace q435 := eq_true q435
       go_wp2_with (first | ((with_reducible refine gate_dst (N := 4) rfl ?_); refine box_event ?hg (N := 4) ?hd (cs := #[.string (⟨#[]⟩ : ByteArray), .string (⟨#[]⟩ : ByteArray), .string (⟨#[]⟩ : ByteArray), .string (⟨#[]⟩ : ByteArray), .int .i64 0, .int .i64 0]) (t := 28) ?hr ?_; (case hd => rfl); (case hg => rfl); (case hr => first | (go_simp; done) | (go_simp; rfl)); intro gb436 hg w6 hbox hb; have n0_ := Aside0.mk (below_step bw hb); have n1_ := Aside0.mk (hbox); have n2_ := Aside0.mk ((by rw [hg]; exact (below_size bw) : w.heap.size ≤ gb436)); have n3_ := Aside0.mk ((by rw [hg]; exact (below_size bw) : w.heap.size ≤ gb436)); clear HB; have HB := n0_; have BK436 := n1_; have GW436 := n2_; have GE436 := n3_; clear n0_ n1_ n2_ n3_; clear hb hbox hg; obtain ⟨hcz7_0, hcz7_1, hcz7_2, hcz7_3, hcz7_4, hcz7_5⟩ := bc6 BK436.out; have hfz7_0 := blk_frozen BK436.out 0; have hfz7_1 := blk_frozen BK436.out 1; have hfz7_2 := blk_frozen BK436.out 2; have hfz7_3 := blk_frozen BK436.out 3; have hfz7_4 := blk_frozen BK436.out 4; have hfz7_5 := blk_frozen BK436.out 5))
       go_ret
       exact ⟨re_, bx⟩
      ·rw [if_neg c5] at H
       have c5b0 : decide (4503599627370496 < ((rd_T28 l0 x7_1).f1)) = false := decide_eq_false c5
       clear c5
       by_cases c8 : ((rd_T28 l0 x7_1).f1) < (-4503599627370496)
       ·rw [if_pos c8] at H
        have c8b0 : decide (((rd_T28 l0 x7_1).f1) < (-4503599627370496)) = true := decide_eq_true c8
        clear c8
        obtain rfl := Option.some.inj H
        have p435 : 0 ≤ (x7_1 : Int) := of_decide_eq_true as_
        have q435 : x7_1 < (l0.length : Int) := of_decide_eq_true as_
        obtain ⟨ad435, e435, hx435_0, hx435_1, hx435_2, hx435_3, hx435_4, hx435_5⟩ := at_T28 HR0.out x7_1 p435 q435
        cases e435; replace hx435_0 := cb HB hx435_0; replace hx435_1 := cb HB hx435_1; replace hx435_2 := cb HB hx435_2; replace hx435_3 := cb HB hx435_3; replace hx435_4 := cb HB hx435_4; replace hx435_5 := cb HB hx435_5; replace p435 := eq_true p435; replace q435 := eq_true q435
        go_wp2_with (first | ((with_reducible refine gate_dst (N := 4) rfl ?_); refine box_event ?hg (N := 4) ?hd (cs := #[.string (⟨#[]⟩ : ByteArray), .string (⟨#[]⟩ : ByteArray), .string (⟨#[]⟩ : ByteArray), .string (⟨#[]⟩ : ByteArray), .int .i64 0, .int .i64 0]) (t := 28) ?hr ?_; (case hd => rfl); (case hg => rfl); (case hr => first | (go_simp; done) | (go_simp; rfl)); intro gb436 hg w9 hbox hb; have n0_ := Aside0.mk (below_step bw hb); have n1_ := Aside0.mk (hbox); have n2_ := Aside0.mk ((by rw [hg]; exact (below_size bw) : w.heap.size ≤ gb436)); have n3_ := Aside0.mk ((by rw [hg]; exact (below_size bw) : w.heap.size ≤ gb436)); clear HB; have HB := n0_; have BK436 := n1_; have GW436 := n2_; have GE436 := n3_; clear n0_ n1_ n2_ n3_; clear hb hbox hg; obtain ⟨hcz10_0, hcz10_1, hcz10_2, hcz10_3, hcz10_4, hcz10_5⟩ := bc6 BK436.out; have hfz10_0 := blk_frozen BK436.out 0; have hfz10_1 := blk_frozen BK436.out 1; have hfz10_2 := blk_frozen BK436.out 2; have hfz10_3 := blk_frozen BK436.out 3; have hfz10_4 := blk_frozen BK436.out 4; have hfz10_5 := blk_frozen BK436.out 5))
        go_ret
        exact ⟨re_, bx⟩
       ·rw [if_neg c8] at H
        have c8b0 : decide (((rd_T28 l0 x7_1).f1) < (-4503599627370496)) = false := decide_eq_false c8
        clear c8
        have H' := Aside0.mk H
        clear H
        have p435 : 0 ≤ (x7_1 : Int) := of_decide_eq_true as_
        have q435 : x7_1 < (l0.length : Int) := of_decide_eq_true as_
        obtain ⟨ad435, e435, hx435_0, hx435_1, hx435_2, hx435_3, hx435_4, hx435_5⟩ := at_T28 HR0.out x7_1 p435 q435
        cases e435; replace hx435_0 := cb HB hx435_0; replace hx435_1 := cb HB hx435_1; replace hx435_2 := cb HB hx435_2; replace hx435_3 := cb HB hx435_3; replace hx435_4 := cb HB hx435_4; replace hx435_5 := cb HB hx435_5; replace p435 := eq_true p435; replace q435 := eq_true q435
        go_wp2_with (first | ((with_reducible refine gate_dst (N := 4) rfl ?_); refine box_event ?hg (N := 4) ?hd (cs := #[.string (⟨#[]⟩ : ByteArray), .string (⟨#[]⟩ : ByteArray), .string (⟨#[]⟩ : ByteArray), .string (⟨#[]⟩ : ByteArray), .int .i64 0, .int .i64 0]) (t := 28) ?hr ?_; (case hd => rfl); (case hg => rfl); (case hr => first | (go_simp; done) | (go_simp; rfl)); intro gb436 hg w11 hbox hb; have n0_ := Aside0.mk (below_step bw hb); have n1_ := Aside0.mk (hbox); have n2_ := Aside0.mk ((by rw [hg]; exact (below_size bw) : w.heap.size ≤ gb436)); have n3_ := Aside0.mk ((by rw [hg]; exact (below_size bw) : w.heap.size ≤ gb436)); clear HB; have HB := n0_; have BK436 := n1_; have GW436 := n2_; have GE436 := n3_; clear n0_ n1_ n2_ n3_; clear hb hbox hg; obtain ⟨hcz12_0, hcz12_1, hcz12_2, hcz12_3, hcz12_4, hcz12_5⟩ := bc6 BK436.out; have hfz12_0 := blk_frozen BK436.out 0; have hfz12_1 := blk_frozen BK436.out 1; have hfz12_2 := blk_frozen BK436.out 2; have hfz12_3 := blk_frozen BK436.out 3; have hfz12_4 := blk_frozen BK436.out 4; have hfz12_5 := blk_frozen BK436.out 5))
        go_roundg k1
        case measure => have := HK1.out; omega
        case rel => exact ⟨(wrap64 (x7_1 + 1)), rs_, H', ⟨by have := HK1.out; omega⟩, ⟨bx⟩⟩
     ·rw [if_neg c4] at H
      exact absurd H (by simp)
    ·rw [if_neg c3] at H
     exact absurd H (by simp)
   ·rw [if_neg c2] at H
    have c2b0 : decide (x7_1 < (l0.length : Int)) = false := decide_eq_false c2
    clear c2
    obtain rfl := Option.some.inj H
    go_wp2; go_ret
    exact ⟨re_, bw⟩

end Go.Proofs.Ytdckeflggcefbaa.Y
namespace Go.Proofs.Ytdckeflggcefbaa.Y
open Go.RowKit Go.Proofs.YtdckeflggcefbaaW.PrintWords Go.Proofs.YtdckeflggcefbaaW.PrintLast Go.Proofs.YtdckeflggcefbaaW.PrintMore
set_option linter.unusedVariables false
set_option linter.unusedSimpArgs false
set_option maxHeartbeats 8000000 in
set_option maxRecDepth 100000 in
theorem gets_few (k : Nat) (A0 : Option Addr) (c0 : Nat) (l0 : List S28) (w : World) (hr0 : Kd.C k28 w A0 l0.length l0) (hc0 : l0.length ≤ c0) (ha : comptrollerlaw09_alive.f k = some true) (hf : comptrollerlaw09_Few.f k l0 = some false) :
    Calls Try.prog 5 #[.slice A0 l0.length c0] w fun e w' => e = .returned (.bool true) ∧ Below w.heap.size w w' := by
  have HR0 := Aside0.mk hr0
  have HC0 := Aside0.mk hc0
  have A4 := Aside0.mk ha
  have A8 := Aside0.mk hf
  clear hr0 hc0 ha hf
  have HB := Aside0.mk (Below.refl w.heap.size w)
  go_enter Try.func5, Try.ntmps5
  go_wp2_with (first
    | ((with_reducible refine gate_callee (f := 6) rfl ?_); refine goesL_ (some 18) rfl rfl Try.func6 (by kernel_rfl) rfl #[] rfl mp_ ?_; (with_reducible refine (comptrollerlaw09_alive.calls k true _ A4.out).mono ?_); rintro e w7 ⟨rfl, hb⟩; refine ⟨_, rfl, ?_⟩; have n0_ := Aside0.mk (below_step bw hb); clear HB; have HB := n0_; clear n0_ hb)
    | ((with_reducible refine gate_callee (f := 7) rfl ?_); refine goesL_ (some 21) rfl rfl Try.func7 (by kernel_rfl) rfl #[.slice A0 l0.length c0] rfl mp_ ?_; (with_reducible refine (comptrollerlaw09_Few.calls k _ _ l0 false _ (Kd.C_below HR0.out HB.out) HC0.out A8.out).mono ?_); rintro e w12 ⟨rfl, hb⟩; refine ⟨_, rfl, ?_⟩; have n0_ := Aside0.mk (below_step bw hb); clear HB; have HB := n0_; clear n0_ hb))
  go_ret
  exact ⟨re_, bw⟩
set_option maxHeartbeats 8000000 in
set_option maxRecDepth 100000 in
theorem gets_small (k : Nat) (A0 : Option Addr) (c0 : Nat) (l0 : List S28) (w : World) (hr0 : Kd.C k28 w A0 l0.length l0) (hc0 : l0.length ≤ c0) (ha : comptrollerlaw09_alive.f k = some true) (hf : comptrollerlaw09_Few.f k l0 = some true) (hs : comptrollerlaw09_small.f k l0 = some false) :
    Calls Try.prog 5 #[.slice A0 l0.length c0] w fun e w' => e = .returned (.bool true) ∧ Below w.heap.size w w' := by
  have HR0 := Aside0.mk hr0
  have HC0 := Aside0.mk hc0
  have A4 := Aside0.mk ha
  have A8 := Aside0.mk hf
  have A10 := Aside0.mk hs
  clear hr0 hc0 ha hf hs
  have HB := Aside0.mk (Below.refl w.heap.size w)
  go_enter Try.func5, Try.ntmps5
  go_wp2_with (first
    | ((with_reducible refine gate_callee (f := 6) rfl ?_); refine goesL_ (some 18) rfl rfl Try.func6 (by kernel_rfl) rfl #[] rfl mp_ ?_; (with_reducible refine (comptrollerlaw09_alive.calls k true _ A4.out).mono ?_); rintro e w7 ⟨rfl, hb⟩; refine ⟨_, rfl, ?_⟩; have n0_ := Aside0.mk (below_step bw hb); clear HB; have HB := n0_; clear n0_ hb)
    | ((with_reducible refine gate_callee (f := 7) rfl ?_); refine goesL_ (some 21) rfl rfl Try.func7 (by kernel_rfl) rfl #[.slice A0 l0.length c0] rfl mp_ ?_; (with_reducible refine (comptrollerlaw09_Few.calls k _ _ l0 true _ (Kd.C_below HR0.out HB.out) HC0.out A8.out).mono ?_); rintro e w12 ⟨rfl, hb⟩; refine ⟨_, rfl, ?_⟩; have n0_ := Aside0.mk (below_step bw hb); clear HB; have HB := n0_; clear n0_ hb)
    | (go_at_call 20; (with_reducible refine (comptrollerlaw09_small.calls k _ _ l0 false _ (Kd.C_below HR0.out HB.out) HC0.out A10.out).mono ?_); rintro e w13 ⟨rfl, hb⟩; have n0_ := Aside0.mk (below_step bw hb); clear HB; have HB := n0_; clear n0_ hb))
  go_ret
  exact ⟨re_, bw⟩
end Go.Proofs.Ytdckeflggcefbaa.Y
namespace Go.Proofs.Ytdckeflggcefbaa.Y
open Go.RowKit Go.Maps Go.ChangeShapes Go.WideShapes Go.ChangeMaps
open Go.WideMaps (KeyLaw)
set_option linter.unusedVariables false
set_option linter.unusedSimpArgs false
def aggK (q : S24) : Value := .agg #[.string q.f0, .string q.f1, .string q.f2, .string q.f3, .int .i64 q.f4]
theorem laidOutY : laidOutB Try.prog = true := by kernel_rfl
theorem law24K : KeyLaw Try.prog 24 := deep_law_laid laidOutY (m := 3) (by omega) (of_decide_eq_true (by kernel_rfl)) (by kernel_rfl) (by kernel_rfl)
theorem law24 : Keyed Try.prog 24 := Keyed.of_law law24K
theorem law9 : Keyed Try.prog 9 := string_keyed Try.underlying9
theorem zeroE2 (w : World) : (zeroValue 2).run Try.prog w = .ok (.int .i64 0) w := by kernel_rfl
theorem lit9 (d : Nat) {s : ByteArray} (h : s.size ≤ maxLen) : Try.prog.keyLits (d + 1) 9 [.string s] = some [.string s.data.toList] := by
  unfold Program.keyLits
  rw [Try.underlying9]
  simp [h]
theorem lit3 (d : Nat) {n : Int} (h : (Lit.int .i64 n).wf = true) : Try.prog.keyLits (d + 1) 3 [.int .i64 n] = some [.int .i64 n] := by
  unfold Program.keyLits
  rw [Try.underlying3]
  simp [h]
theorem kcells9 : Try.prog.cellsOf 9 = 1 := by kernel_rfl
theorem kcells3 : Try.prog.cellsOf 3 = 1 := by kernel_rfl
theorem kcells24 : Try.prog.cellsOf 24 = 5 := by kernel_rfl
theorem ktype24 : Try.prog.keyType 24 = true := by kernel_rfl
theorem key24_mk (q : S24) (h0 : q.f0.size ≤ maxLen) (h1 : q.f1.size ≤ maxLen) (h2 : q.f2.size ≤ maxLen) (h3 : q.f3.size ≤ maxLen) (hw : (Lit.int .i64 q.f4).wf = true) : ∃ kl, keyOf Try.prog 24 (aggK q) = some kl := by
  obtain ⟨m, hm⟩ : ∃ m, Try.prog.types.size = m + 1 := ⟨Try.prog.types.size - 1, by have : 0 < Try.prog.types.size := of_decide_eq_true (by kernel_rfl); omega⟩
  have hf : (aggK q).formed Try.prog 24 = true := by simp [aggK, Value.formed, Try.underlying24, kcells24]
  unfold keyOf
  rw [Try.underlying24, hm]
  simp only [ktype24, hf, Bool.and_self, if_true]
  unfold Program.keyLits
  rw [Try.underlying24]
  simp [aggK, Value.cells, kcells24, kcells9, kcells3, lit9 m h0, lit9 m h1, lit9 m h2, lit9 m h3, lit3 m hw]
theorem key24_inv {v : Value} {kl : Lit} (h : keyOf Try.prog 24 v = some kl) : ∃ q, v = aggK q := by
  obtain ⟨m, hm⟩ : ∃ m, Try.prog.types.size = m + 1 := ⟨Try.prog.types.size - 1, by have : 0 < Try.prog.types.size := of_decide_eq_true (by kernel_rfl); omega⟩
  unfold keyOf at h
  rw [Try.underlying24, hm] at h
  simp only at h
  split at h
  · rename_i hc
    simp only [ktype24, Bool.true_and] at hc
    cases v with
    | agg cs =>
      simp [Value.formed, Try.underlying24, kcells24] at hc
      obtain ⟨ls, hls, _⟩ := Option.map_eq_some_iff.1 h
      unfold Program.keyLits at hls
      rw [Try.underlying24] at hls
      simp only [Value.cells] at hls
      obtain ⟨l⟩ := cs
      simp at hc
      match l, hc with
      | [c0, c1, c2, c3, c4], _ =>
        simp [kcells24, kcells9, kcells3, Option.bind_eq_some_iff] at hls
        obtain ⟨l0, e0, _, ⟨l1, e1, _, ⟨l2, e2, _, ⟨l3, e3, _, ⟨l4, e4, _⟩, _⟩, _⟩, _⟩, _⟩ := hls
        obtain ⟨s0, h0, _⟩ := keyLits_string' Try.underlying9 e0
        obtain ⟨s1, h1, _⟩ := keyLits_string' Try.underlying9 e1
        obtain ⟨s2, h2, _⟩ := keyLits_string' Try.underlying9 e2
        obtain ⟨s3, h3, _⟩ := keyLits_string' Try.underlying9 e3
        obtain ⟨s4, h4, _⟩ := keyLits_int' Try.underlying3 e4
        simp at h0 h1 h2 h3 h4
        subst h0 h1 h2 h3 h4
        exact ⟨⟨s0, s1, s2, s3, s4⟩, rfl⟩
    | _ => simp [Value.formed, Try.underlying24] at hc
  · cases h
theorem key9_inv {v : Value} {kl : Lit} (h : keyOf Try.prog 9 v = some kl) : ∃ s, v = .string s := by
  obtain ⟨s, rfl, _⟩ := Go.WideMaps.string_of_keyOf Try.underlying9 h
  exact ⟨s, rfl⟩
end Go.Proofs.Ytdckeflggcefbaa.Y
namespace Go.Proofs.Ytdckeflggcefbaa.Y
open Go.Maps Go.ChangeShapes Go.WideShapes Go.ChangeMaps Go.MapKept
open Go.WideElems (Fit entry_then_store)
open Go.WideMaps (KeyLaw)
set_option linter.unusedVariables false
set_option linter.unusedSimpArgs false
section
variable {H : Type} {P : Program} {w : World} {t k e : TypeId} {R : Value → Option (DataW H × List MemPlace)} {b n : Nat} {es : Array MapEntry} {clock : Nat} {D : DataW H}
theorem own_eq {w' : World} (h : w.ownsMap P k R b n D) (e : w'.heap[b]? = w.heap[b]?) : w'.ownsMap P k R b n D := by
  obtain ⟨es, clock, hb, rest⟩ := h
  exact ⟨es, clock, e.trans hb, rest⟩
theorem look_at (K : KeyLaw P k) (ht : P.underlying t = some (.map k e)) {z : Value} (hz : ∀ u : World, (zeroValue e).run P u = .ok z u) {key : Value} {kl : Lit} (hkey : keyOf P k key = some kl)
    (hk : ∀ x ∈ es.toList, ∃ l, keyOf P k x.key = some l) {v0 : Value} (hv : (∀ x ∈ es.toList, x.key = key → x.val = v0) ∧ ((∀ x ∈ es.toList, x.key ≠ key) → v0 = z)) (w1 : World) (h1 : w1.heap[b]? = some (.map es clock)) :
    (Instr.lookup t (.map (some b)) key false).run P w1 = .ok v0 w1 := by
  rcases K.find w1 hkey es.toList hk with ⟨g1, g2⟩ | ⟨j, e0, g1, g2, g3⟩
  · rw [hv.2 g2]
    simp [Instr.lookup, run_underlying ht, MapKept.run_getObj_map h1, K.check w1 _ hkey, g1, hz, Result.andThen]
  · rw [← hv.1 e0 (List.mem_of_getElem? g2) g3]
    simp [Instr.lookup, run_underlying ht, MapKept.run_getObj_map h1, K.check w1 _ hkey, g1, Result.andThen]
theorem entry_all (K : KeyLaw P k) (ht : P.underlying t = some (.map k e)) {z : Value} (hz : ∀ u : World, (zeroValue e).run P u = .ok z u) (hb : w.heap[b]? = some (.map es clock)) (F : Fit P k R es clock)
    {key : Value} {kl : Lit} (hkey : keyOf P k key = some kl) :
    ∃ (v0 : Value) (st : Nat) (es1 : Array MapEntry) (clock1 : Nat), (Instr.mapEntry t (.map (some b)) key).run P w = .ok (.tuple #[v0, goInt st]) (setBlock w b (.map es1 clock1)) ∧
      (∀ w1 : World, w1.heap[b]? = some (.map es clock) → (Instr.lookup t (.map (some b)) key false).run P w1 = .ok v0 w1) ∧
      (∀ w1 : World, w1.heap[b]? = some (.map es1 clock1) → (Instr.lookup t (.map (some b)) key false).run P w1 = .ok v0 w1) ∧
      ∀ (w2 : World) (val : Value), w2.heap[b]? = some (.map es1 clock1) → ∃ es' clock', (Instr.entryStore t (.map (some b)) (goInt st) val).run P w2 = .ok () (setBlock w2 b (.map es' clock')) ∧
        (Instr.mapUpdate t (.map (some b)) key val).run P w = .ok () (setBlock w b (.map es' clock')) := by
  obtain ⟨v0, st, es1, clock1, h1, h2, h3⟩ := entry_then_store K ht hz hb F hkey
  have own := MapKept.heap_set (o' := Obj.map es1 clock1) hb
  have one : ∀ x ∈ es.toList, ∀ y ∈ es.toList, x.key = key → y.key = key → x = y := fun x hx y hy ex ey => entry_eq_of_key ((stamped_iff es clock).1 F.stamped).2.2 hx hy (ex.trans ey.symm)
  refine ⟨v0, st, es1, clock1, h1, fun w1 hw1 => ?_, fun w1 hw1 => ?_, h3⟩
  · refine look_at K ht hz hkey F.keys ⟨fun x hx ex => ?_, fun hno => ?_⟩ w1 hw1
    · rcases h2 with ⟨e0, he, hk, hv⟩ | ⟨hno, _⟩
      · rw [hv, one x hx e0 he ex hk]
      · exact absurd ex (hno x hx)
    · rcases h2 with ⟨e0, he, hk, hv⟩ | ⟨_, hv⟩
      · exact absurd hk (hno e0 he)
      · exact hv
  · rcases K.find w hkey es.toList F.keys with ⟨g1, g2⟩ | ⟨j, e0, g1, g2, g3⟩
    · have hrun : (Instr.mapEntry t (.map (some b)) key).run P w = .ok (.tuple #[z, goInt clock]) (setBlock w b (.map (es.push ⟨key, z, clock⟩) (clock + 1))) := by
        simp [Instr.mapEntry, run_underlying ht, MapKept.run_getObj_map hb, K.check w false hkey, g1, hz, MapKept.run_setObj_map _ hb, Result.andThen, setBlock]
      rw [hrun] at h1
      rw [Result.ok.injEq] at h1
      obtain ⟨ha, hb1⟩ := h1
      have hv : v0 = z := by
        rw [Value.tuple.injEq, Array.mk.injEq, List.cons.injEq] at ha
        exact ha.1.symm
      have he : (Obj.map es1 clock1) = .map (es.push ⟨key, z, clock⟩) (clock + 1) := by
        have a1 : (setBlock w b (.map es1 clock1)).heap[b]? = some (.map es1 clock1) := own.1
        have a2 := (MapKept.heap_set (o' := Obj.map (es.push ⟨key, z, clock⟩) (clock + 1)) hb).1
        rw [← hb1] at a1
        have a3 : (setBlock w b (.map (es.push ⟨key, z, clock⟩) (clock + 1))).heap[b]? = some (.map (es.push ⟨key, z, clock⟩) (clock + 1)) := a2
        exact Option.some.inj (a1.symm.trans a3)
      rw [Obj.map.injEq] at he
      obtain ⟨he1, he2⟩ := he
      subst he1 he2 hv
      refine look_at K ht hz hkey (fun x hx => ?_) ⟨fun x hx ex => ?_, fun _ => rfl⟩ w1 hw1
      · simp only [Array.toList_push, List.mem_append, List.mem_singleton] at hx
        rcases hx with hx | rfl
        · exact F.keys x hx
        · exact ⟨kl, hkey⟩
      · simp only [Array.toList_push, List.mem_append, List.mem_singleton] at hx
        rcases hx with hx | rfl
        · exact absurd ex (g2 x hx)
        · rfl
    · have hj : es[j]? = some e0 := by simpa using g2
      have hsame : es.modify j (fun e => { e with key := key }) = es := by
        apply Array.ext'
        rw [Array.toList_modify, modify_eq_set _ _ _ _ g2]
        have : ({ e0 with key := key } : MapEntry) = e0 := by rw [← g3]
        rw [this]
        exact Go.WideElems.set_self _ _ _ g2
      have hrun : (Instr.mapEntry t (.map (some b)) key).run P w = .ok (.tuple #[e0.val, goInt e0.born]) (setBlock w b (.map es clock)) := by
        simp [Instr.mapEntry, run_underlying ht, MapKept.run_getObj_map hb, K.check w false hkey, g1, hj, g3, K.stays w hkey, hsame, MapKept.run_setObj_map _ hb, Result.andThen, setBlock]
      rw [hrun] at h1
      rw [Result.ok.injEq] at h1
      obtain ⟨ha, hb1⟩ := h1
      have hv : v0 = e0.val := by
        rw [Value.tuple.injEq, Array.mk.injEq, List.cons.injEq] at ha
        exact ha.1.symm
      have he : (Obj.map es1 clock1) = .map es clock := by
        have a1 : (setBlock w b (.map es1 clock1)).heap[b]? = some (.map es1 clock1) := own.1
        have a2 := (MapKept.heap_set (o' := Obj.map es clock) hb).1
        rw [← hb1] at a1
        have a3 : (setBlock w b (.map es clock)).heap[b]? = some (.map es clock) := a2
        exact Option.some.inj (a1.symm.trans a3)
      rw [Obj.map.injEq] at he
      obtain ⟨he1, he2⟩ := he
      subst he1 he2 hv
      exact look_at K ht hz hkey F.keys ⟨fun x hx ex => by rw [one x hx e0 (List.mem_of_getElem? g2) ex g3], fun hno => absurd g3 (hno e0 (List.mem_of_getElem? g2))⟩ w1 hw1
end
/-- 'm[k] += v' at this program's map of sums. -/
theorem add_want {w : World} {b n : Nat} {D : DataW Unit} (hown : w.ownsMap Try.prog 24 (plainElem Try.prog 2) b n D) (hn : n < maxLen) {q : S24} {kl : Lit} (hkey : keyOf Try.prog 24 (aggK q) = some kl) :
    ∃ (c : Int) (st : Nat) (w1 : World), D.atKey kl (.lit (.int .i64 0)) = .lit (.int .i64 c) ∧ (Lit.int .i64 c).wf = true ∧
      (Instr.mapEntry 52 (.map (some b)) (aggK q)).run Try.prog w = .ok (.tuple #[.int .i64 c, goInt st]) w1 ∧
      (Instr.lookup 52 (.map (some b)) (aggK q) false).run Try.prog w = .ok (.int .i64 c) w ∧ (Instr.lookup 52 (.map (some b)) (aggK q) false).run Try.prog w1 = .ok (.int .i64 c) w1 ∧ w.grownBy w1 (some b) ∧
      ∀ v : Int, (Lit.int .i64 v).wf = true → ∃ w2, (Instr.entryStore 52 (.map (some b)) (goInt st) (.int .i64 v)).run Try.prog w1 = .ok () w2 ∧ w2.ownsMap Try.prog 24 (plainElem Try.prog 2) b (n + 1) (D.put kl (.lit (.int .i64 v))) ∧ w.grownBy w2 (some b) := by
  obtain ⟨c, hrun, hat, hwc⟩ := hown.lookup_int law24 Try.underlying52 Try.underlying2 (zeroE2 _) hkey
  have hown' := hown
  obtain ⟨es, clock, hb, F, hs, hD⟩ := hown'
  obtain ⟨v0, st, es1, clock1, h1, h2, h3, h4⟩ := entry_all law24K Try.underlying52 (fun u => zeroE2 u) hb F hkey
  have hv : v0 = .int .i64 c := by
    have := (h2 w hb).symm.trans hrun
    rw [Result.ok.injEq] at this
    exact this.1
  subst hv
  have grow : ∀ o : Obj, w.grownBy (setBlock w b o) (some b) := fun o => ⟨rfl, rfl, rfl, by simp [setBlock], fun i _ hi => heap_setBlock_other hb _ (fun e => hi (by rw [e]))⟩
  have hb1 := heap_setBlock_same hb (.map es1 clock1)
  refine ⟨c, st, setBlock w b (.map es1 clock1), hat, hwc, h1, hrun, h3 _ hb1, grow _, fun v hwv => ?_⟩
  obtain ⟨es', clock', g1, g2⟩ := h4 _ (.int .i64 v) hb1
  obtain ⟨w3, k1, k2, k3⟩ := hown.update law24 Try.underlying52 hn hkey (plainElem_int Try.underlying2 hwv)
  have e3 := k1.symm.trans g2
  rw [Result.ok.injEq] at e3
  obtain ⟨_, rfl⟩ := e3
  refine ⟨_, g1, own_eq k2 ?_, ?_⟩
  · exact (heap_setBlock_same hb1 _).trans (heap_setBlock_same hb _).symm
  · refine ⟨rfl, rfl, rfl, by simp [setBlock], fun i hi hne => ?_⟩
    have hib : i ≠ b := fun e => hne (by rw [e])
    exact (heap_setBlock_other hb1 _ hib).trans (heap_setBlock_other hb _ hib)
end Go.Proofs.Ytdckeflggcefbaa.Y
namespace Go.Proofs.Ytdckeflggcefbaa.Y
open Go.RowKit Go.Proofs.YtdckeflggcefbaaW.PrintWords Go.Proofs.YtdckeflggcefbaaW.PrintLast Go.Proofs.YtdckeflggcefbaaW.PrintMore
set_option linter.unusedVariables false
set_option linter.unusedSimpArgs false
/-- What holds from some number of rounds on. -/
def Ev {α : Type} (f : Nat → Option α) (r : α) : Prop := ∃ k0, ∀ k, k0 ≤ k → f k = some r
theorem Ev.const {α : Type} {f : Nat → Option α} {r : α} (h : ∀ k, f k = some r) : Ev f r := ⟨0, fun k _ => h k⟩
theorem Ev.step {α : Type} {f g : Nat → Option α} {r : α} (hg : Ev g r) (h : ∀ k, f (k + 1) = g k) : Ev f r := by
  obtain ⟨k0, hk⟩ := hg
  refine ⟨k0 + 1, fun k hle => ?_⟩
  obtain ⟨k, rfl⟩ : ∃ j, k = j + 1 := ⟨k - 1, by omega⟩
  rw [h, hk _ (by omega)]
theorem Ev.bind {α β : Type} {f : Nat → Option α} {g : Nat → α → Option β} {a : α} {r : β} (hf : Ev f a) (hg : Ev (fun k => g k a) r) : Ev (fun k => (f k).bind (g k)) r := by
  obtain ⟨k1, h1⟩ := hf
  obtain ⟨k2, h2⟩ := hg
  refine ⟨max k1 k2, fun k hle => ?_⟩
  show (f k).bind (g k) = some r
  rw [h1 k (by omega)]
  exact h2 k (by omega)
theorem Ev.eq {α : Type} {f g : Nat → Option α} {r : α} (hg : Ev g r) (h : ∀ k, f k = g k) : Ev f r := by
  obtain ⟨k0, hk⟩ := hg
  exact ⟨k0, fun k hle => by rw [h, hk _ hle]⟩
theorem w64 {n : Int} (h1 : -9223372036854775808 ≤ n) (h2 : n ≤ 9223372036854775807) : wrap64 n = n := by unfold wrap64; omega
theorem wu64 {n : Int} (h1 : 0 ≤ n) (h2 : n ≤ 9223372036854775807) : IntKind.u64.wrap n = n := by
  simp only [IntKind.wrap, IntKind.bits, IntKind.signed]
  simp
  omega

/-- A comparison that orders. -/
structure Good {α : Type} (c : α → α → Int) : Prop where
  anti : ∀ x y, c y x = - c x y
  trans : ∀ x y z, c x y ≤ 0 → c y z ≤ 0 → c x z ≤ 0
theorem Good.refl {α : Type} {c : α → α → Int} (h : Good c) (x : α) : c x x = 0 := by have := h.anti x x; omega
theorem Good.lex {α : Type} {c d : α → α → Int} (h : Good c) (g : Good d) : Good fun x y => if c x y = 0 then d x y else c x y := by
  constructor
  · intro x y
    have h1 := h.anti x y
    have h2 := g.anti x y
    show (if c y x = 0 then d y x else c y x) = -(if c x y = 0 then d x y else c x y)
    split <;> split <;> omega
  · intro x y z h1 h2
    replace h1 : (if c x y = 0 then d x y else c x y) ≤ 0 := h1
    replace h2 : (if c y z = 0 then d y z else c y z) ≤ 0 := h2
    show (if c x z = 0 then d x z else c x z) ≤ 0
    have hxy : c x y ≤ 0 := by split at h1 <;> omega
    have hyz : c y z ≤ 0 := by split at h2 <;> omega
    have hxz := h.trans x y z hxy hyz
    split
    · rename_i e
      have a1 := h.anti x z
      have a2 := h.anti x y
      have a3 := h.anti y z
      have t1 := h.trans z x y (by omega) hxy
      have t2 := h.trans y z x hyz (by omega)
      rw [if_pos (by omega)] at h1
      rw [if_pos (by omega)] at h2
      exact g.trans x y z h1 h2
    · exact hxz
theorem Good.on {α β : Type} {c : β → β → Int} (h : Good c) (f : α → β) : Good fun x y => c (f x) (f y) := ⟨fun x y => h.anti _ _, fun x y z => h.trans _ _ _⟩
theorem u8_lt {a b : UInt8} : a < b ↔ a.toNat < b.toNat := Iff.rfl
theorem compareBytes_anti : ∀ x y : List UInt8, Lib.compareBytes y x = - Lib.compareBytes x y
  | [], [] => by simp [Lib.compareBytes]
  | [], _ :: _ => by simp [Lib.compareBytes]
  | _ :: _, [] => by simp [Lib.compareBytes]
  | a :: x, b :: y => by
    have ih := compareBytes_anti x y
    simp only [Lib.compareBytes, u8_lt]
    split <;> split <;> omega
theorem compareBytes_zero : ∀ x y : List UInt8, Lib.compareBytes x y = 0 ↔ x = y
  | [], [] => by simp [Lib.compareBytes]
  | [], _ :: _ => by simp [Lib.compareBytes]
  | _ :: _, [] => by simp [Lib.compareBytes]
  | a :: x, b :: y => by
    have ih := compareBytes_zero x y
    simp only [Lib.compareBytes, u8_lt]
    split
    · rename_i h
      refine ⟨fun e => by omega, fun e => ?_⟩
      injection e with e1 e2
      rw [e1] at h; omega
    · split
      · rename_i h
        refine ⟨fun e => by omega, fun e => ?_⟩
        injection e with e1 e2
        rw [e1] at h; omega
      · rename_i h1 h2
        have : a = b := UInt8.toNat_inj.1 (by omega)
        subst this
        simp [ih]
theorem compareBytes_trans : ∀ x y z : List UInt8, Lib.compareBytes x y ≤ 0 → Lib.compareBytes y z ≤ 0 → Lib.compareBytes x z ≤ 0
  | [], _, [] => by simp [Lib.compareBytes]
  | [], _, _ :: _ => by simp [Lib.compareBytes]
  | _ :: _, [], _ => by simp [Lib.compareBytes]
  | _ :: _, _ :: _, [] => by simp [Lib.compareBytes]
  | a :: x, b :: y, d :: z => by
    have ih := compareBytes_trans x y z
    simp only [Lib.compareBytes, u8_lt]
    intro h1 h2
    split at h1
    · split at h2
      · rw [if_pos (by omega)]; omega
      · split at h2
        · omega
        · rw [if_pos (by omega)]; omega
    · split at h1
      · omega
      · split at h2
        · rw [if_pos (by omega)]; omega
        · split at h2
          · omega
          · rw [if_neg (by omega), if_neg (by omega)]
            exact ih h1 h2
theorem compareBytes_good : Good Lib.compareBytes := ⟨compareBytes_anti, compareBytes_trans⟩
def cmpI (x y : Int) : Int := if x < y then -1 else if x > y then 1 else 0
theorem cmpI_good : Good cmpI := by
  constructor
  · intro x y; simp only [cmpI]; split <;> split <;> (try split) <;> omega
  · intro x y z h1 h2
    simp only [cmpI] at h1 h2 ⊢
    split at h1 <;> split at h2 <;> (try split at h1) <;> (try split at h2) <;> split <;> (try split) <;> omega
/-- How two keys stand. -/
def cmpK (x y : S44) : Int :=
  if Lib.compareBytes x.f0.data.toList y.f0.data.toList = 0 then
    (if Lib.compareBytes x.f1.data.toList y.f1.data.toList = 0 then
      (if Lib.compareBytes x.f2.data.toList y.f2.data.toList = 0 then
        (if Lib.compareBytes x.f3.data.toList y.f3.data.toList = 0 then cmpI x.f4 y.f4 else Lib.compareBytes x.f3.data.toList y.f3.data.toList)
      else Lib.compareBytes x.f2.data.toList y.f2.data.toList)
    else Lib.compareBytes x.f1.data.toList y.f1.data.toList)
  else Lib.compareBytes x.f0.data.toList y.f0.data.toList
theorem cmpK_good : Good cmpK :=
  Good.lex (compareBytes_good.on fun x : S44 => x.f0.data.toList) (Good.lex (compareBytes_good.on fun x : S44 => x.f1.data.toList) (Good.lex (compareBytes_good.on fun x : S44 => x.f2.data.toList) (Good.lex (compareBytes_good.on fun x : S44 => x.f3.data.toList) (cmpI_good.on fun x : S44 => x.f4))))
theorem cmpI_zero (x y : Int) : cmpI x y = 0 ↔ x = y := by unfold cmpI; split <;> (try split) <;> omega
theorem bytes_eq {x y : ByteArray} (h : x.data.toList = y.data.toList) : x = y := by
  cases x; cases y
  simp only [ByteArray.mk.injEq]
  exact Array.toList_inj.1 h
theorem cmpK_zero (x y : S44) : cmpK x y = 0 ↔ x = y := by
  constructor
  · intro h
    unfold cmpK at h
    split at h
    · rename_i h0
      split at h
      · rename_i h1
        split at h
        · rename_i h2
          split at h
          · rename_i h3
            have e0 := bytes_eq ((compareBytes_zero _ _).1 h0)
            have e1 := bytes_eq ((compareBytes_zero _ _).1 h1)
            have e2 := bytes_eq ((compareBytes_zero _ _).1 h2)
            have e3 := bytes_eq ((compareBytes_zero _ _).1 h3)
            have e4 := (cmpI_zero _ _).1 h
            cases x; cases y
            simp only at e0 e1 e2 e3 e4
            subst e0 e1 e2 e3 e4
            rfl
          · rename_i h3; exact absurd h h3
        · rename_i h2; exact absurd h h2
      · rename_i h1; exact absurd h h1
    · rename_i h0; exact absurd h h0
  · rintro rfl
    exact cmpK_good.refl x
theorem or5 (a b c d e : Int) : Ev (fun k => cmp_Or_int.f k [a, b, c, d, e]) (if a = 0 then (if b = 0 then (if c = 0 then (if d = 0 then e else d) else c) else b) else a) := by
  refine ⟨6, fun k hk => ?_⟩
  obtain ⟨k, rfl⟩ : ∃ j, k = j + 6 := ⟨k - 6, by omega⟩
  simp only [cmp_Or_int.f]
  have w1 : wrap64 1 = 1 := by unfold wrap64; omega
  have w2 : wrap64 2 = 2 := by unfold wrap64; omega
  have w3 : wrap64 3 = 3 := by unfold wrap64; omega
  have w4 : wrap64 4 = 4 := by unfold wrap64; omega
  have w5 : wrap64 5 = 5 := by unfold wrap64; omega
  by_cases h0 : a = 0
  · by_cases h1 : b = 0
    · by_cases h2 : c = 0
      · by_cases h3 : d = 0
        · by_cases h4 : e = 0 <;> simp [cmp_Or_int.l0, rd, rdOf, *]
        · simp [cmp_Or_int.l0, rd, rdOf, *]
      · simp [cmp_Or_int.l0, rd, rdOf, *]
    · simp [cmp_Or_int.l0, rd, rdOf, *]
  · simp [cmp_Or_int.l0, rd, rdOf, *]
theorem cmpC (a b : Int) : cmp_Compare_int.f a b = some (cmpI a b) := by
  simp only [cmp_Compare_int.f, cmp_isNaN_int.f, cmpI, Option.bind_some]
  simp
  split <;> (try split) <;> rfl
theorem cmp_ev (x y : S44) : Ev (fun k => fact_Cmp.f k x.f0 x.f1 x.f2 x.f3 x.f4 y.f0 y.f1 y.f2 y.f3 y.f4) (cmpK x y) := by
  simp only [fact_Cmp.f, strings_Compare.f, cmpC, Option.bind_some]
  refine Ev.bind (g := fun _ t => some t) (or5 _ _ _ _ _) (Ev.const fun _ => ?_)
  rfl
/-- How two facts stand. -/
def cmpS (x y : S55) : Int := cmpK x.f0 y.f0
theorem cmpS_good : Good cmpS := cmpK_good.on fun x : S55 => x.f0
theorem of1_ev (x y : S55) : Ev (fun k => fact_Of_1.f k x.f0.f0 x.f0.f1 x.f0.f2 x.f0.f3 x.f0.f4 x.f1 y.f0.f0 y.f0.f1 y.f0.f2 y.f0.f3 y.f0.f4 y.f1) (cmpS x y) := by
  simp only [fact_Of_1.f]
  exact Ev.bind (g := fun _ t => some t) (cmp_ev x.f0 y.f0) (Ev.const fun _ => rfl)
theorem le_of_not_lt {x y : S55} (h : ¬ cmpS x y < 0) : cmpS y x ≤ 0 := by have := cmpS_good.anti x y; omega
theorem lt_le {x y z : S55} (h : cmpS x y < 0) (g : cmpS y z ≤ 0) : cmpS x z < 0 := by
  have a := cmpS_good.anti x z
  have b := cmpS_good.anti x y
  have t := cmpS_good.trans y z x g
  omega
theorem le_lt {x y z : S55} (h : cmpS x y ≤ 0) (g : cmpS y z < 0) : cmpS x z < 0 := by
  have a := cmpS_good.anti x z
  have b := cmpS_good.anti y z
  have t := cmpS_good.trans z x y
  omega
/-- Sorted: each stands no lower than any ahead of it. -/
def Srt (l : List S55) : Prop := l.Pairwise fun x y => cmpS x y ≤ 0
def eqv (x y : S55) : Bool := cmpS x y == 0
/-- r is l, sorted; facts of one key stand as they stood. -/
def SS (l r : List S55) : Prop := Srt r ∧ ∀ x, r.filter (eqv x) = l.filter (eqv x)
theorem Srt.app {a b : List S55} (ha : Srt a) (hb : Srt b) (h : ∀ x ∈ a, ∀ y ∈ b, cmpS x y ≤ 0) : Srt (a ++ b) := List.pairwise_append.2 ⟨ha, hb, h⟩
theorem Srt.left {a b : List S55} (h : Srt (a ++ b)) : Srt a := (List.pairwise_append.1 h).1
theorem Srt.right {a b : List S55} (h : Srt (a ++ b)) : Srt b := (List.pairwise_append.1 h).2.1
theorem Srt.across {a b : List S55} (h : Srt (a ++ b)) : ∀ x ∈ a, ∀ y ∈ b, cmpS x y ≤ 0 := (List.pairwise_append.1 h).2.2
theorem SS.refl {l : List S55} (h : Srt l) : SS l l := ⟨h, fun _ => rfl⟩
theorem SS.trans {a b c : List S55} (h : SS a b) (g : SS b c) : SS a c := ⟨g.1, fun x => (g.2 x).trans (h.2 x)⟩
theorem SS.mem {l r : List S55} (h : SS l r) {x : S55} : x ∈ r ↔ x ∈ l := by
  have e : eqv x x = true := by simp [eqv, cmpS_good.refl]
  have h1 : ∀ k : List S55, x ∈ k ↔ x ∈ k.filter (eqv x) := fun k => by simp [List.mem_filter, e]
  rw [h1 r, h.2, ← h1]
/-- Two parts that stand apart, each sorted. -/
theorem SS.app {a b c d : List S55} (h : SS a c) (g : SS b d) (hx : ∀ x ∈ a, ∀ y ∈ b, cmpS x y ≤ 0) : SS (a ++ b) (c ++ d) :=
  ⟨h.1.app g.1 fun x hx' y hy => hx x (h.mem.1 hx') y (g.mem.1 hy), fun x => by rw [List.filter_append, List.filter_append, h.2, g.2]⟩
/-- What is strictly below may go ahead. -/
theorem filter_cross {a b : List S55} (h : ∀ x ∈ a, ∀ y ∈ b, cmpS y x < 0) (z : S55) : (b ++ a).filter (eqv z) = (a ++ b).filter (eqv z) := by
  rw [List.filter_append, List.filter_append]
  by_cases ha : a.filter (eqv z) = []
  · rw [ha]; simp
  · obtain ⟨x, hx⟩ := List.exists_mem_of_ne_nil _ ha
    rw [List.mem_filter] at hx
    have hb : b.filter (eqv z) = [] := by
      rw [List.filter_eq_nil_iff]
      intro y hy e
      have h1 := h x hx.1 y hy
      have h2 : cmpS z x = 0 := by simpa [eqv] using hx.2
      have h3 : cmpS z y = 0 := by simpa [eqv] using e
      have := cmpS_good.anti z y
      have := cmpS_good.anti z x
      have := lt_le (z := z) h1 (by omega)
      omega
    rw [hb]; simp
theorem rd_app (P R : List S55) (x : S55) (i : Int) (hi : i = P.length) : rd_T55 (P ++ x :: R) i = x := by
  subst hi; simp [rd_T55, List.getD_eq_getElem?_getD]
theorem swap_app (P M Q : List S55) (x y : S55) (i j : Int) (hi : i = P.length) (hj : j = P.length + 1 + M.length) :
    ((P ++ (x :: (M ++ y :: Q))).set i.toNat y).set j.toNat x = P ++ (y :: (M ++ x :: Q)) := by
  subst hi hj
  have e : ((P.length : Int) + 1 + M.length).toNat = P.length + (1 + M.length) := by omega
  rw [e, Int.toNat_natCast, List.set_append_right _ _ (Nat.le_refl _), List.set_append_right _ _ (by omega)]
  simp only [Nat.sub_self, List.set_cons_zero, Nat.add_sub_cancel_left, Nat.add_comm 1, List.set_cons_succ]
  rw [List.set_append_right _ _ (Nat.le_refl _)]
  simp
/-- Few enough for a machine's whole number. -/
def Sm (n : Nat) : Prop := n ≤ 1000000000000000000

/-! ### the exchange of two stretches -/
theorem l51_step {xs : List S55} {a b n i : Int} (k : Nat) (hs : Sm xs.length) (h : i < n) (hn : n ≤ 1000000000000000000) (h0 : 0 ≤ i) (ha : 0 ≤ a + i) (ha2 : a + i < xs.length) (hb : 0 ≤ b + i) (hb2 : b + i < xs.length) :
    fact_Fact_51.l0 (k + 1) xs a b n i = fact_Fact_51.l0 k ((xs.set (a + i).toNat (rd_T55 xs (b + i))).set (b + i).toNat (rd_T55 xs (a + i))) a b n (i + 1) := by
  unfold Sm at hs
  simp only [fact_Fact_51.l0]
  rw [if_pos h, w64 (n := b + i) (by omega) (by omega), w64 (n := a + i) (by omega) (by omega), w64 (n := i + 1) (by omega) (by omega), if_pos hb, if_pos hb2, if_pos ha, if_pos ha2]
theorem l51_end {xs : List S55} {a b n i : Int} (k : Nat) (h : ¬ i < n) : fact_Fact_51.l0 (k + 1) xs a b n i = some xs := by
  simp only [fact_Fact_51.l0]; rw [if_neg h]
theorem l51_ev : ∀ (X Y P M Q : List S55) (a b n i : Int), X.length = Y.length → Sm (P ++ (X ++ (M ++ (Y ++ Q)))).length → a + i = P.length → b + i = P.length + X.length + M.length → n - i = X.length → n ≤ 1000000000000000000 → 0 ≤ i →
    Ev (fun k => fact_Fact_51.l0 k (P ++ (X ++ (M ++ (Y ++ Q)))) a b n i) (P ++ (Y ++ (M ++ (X ++ Q))))
  | [], [], P, M, Q, a, b, n, i, hl, hs, ha, hb, hn, hn2, hi => by
    exact ⟨1, fun k hk => by obtain ⟨k, rfl⟩ : ∃ j, k = j + 1 := ⟨k - 1, by omega⟩; show fact_Fact_51.l0 (k + 1) _ _ _ _ _ = _; rw [l51_end k (by simp at hn; omega)]⟩
  | x :: X, y :: Y, P, M, Q, a, b, n, i, hl, hs, ha, hb, hn, hn2, hi => by
    have hl' : X.length = Y.length := by simpa using hl
    have hlen : (P ++ ((x :: X) ++ (M ++ ((y :: Y) ++ Q)))).length = P.length + X.length + M.length + Y.length + Q.length + 2 := by simp; omega
    simp only [List.length_cons] at hb hn
    have ih := l51_ev X Y (P ++ [y]) (M ++ [x]) Q a b n (i + 1) hl' (by unfold Sm at hs ⊢; rw [hlen] at hs; simp; omega) (by simp; omega) (by simp; omega) (by omega) hn2 (by omega)
    rw [show P ++ ((y :: Y) ++ (M ++ ((x :: X) ++ Q))) = (P ++ [y]) ++ (Y ++ ((M ++ [x]) ++ (X ++ Q))) by simp]
    refine Ev.step ih fun k => ?_
    show fact_Fact_51.l0 (k + 1) _ _ _ _ _ = _
    rw [l51_step k hs (by omega) hn2 hi (by omega) (by rw [hlen]; omega) (by omega) (by rw [hlen]; omega)]
    have e1 : P ++ ((x :: X) ++ (M ++ ((y :: Y) ++ Q))) = P ++ (x :: ((X ++ M) ++ y :: (Y ++ Q))) := by simp
    have e2 : P ++ ((x :: X) ++ (M ++ ((y :: Y) ++ Q))) = (P ++ (x :: (X ++ M))) ++ y :: (Y ++ Q) := by simp
    have r1 : rd_T55 (P ++ ((x :: X) ++ (M ++ ((y :: Y) ++ Q)))) (a + i) = x := by rw [e1]; exact rd_app _ _ _ _ ha
    have r2 : rd_T55 (P ++ ((x :: X) ++ (M ++ ((y :: Y) ++ Q)))) (b + i) = y := by rw [e2]; exact rd_app _ _ _ _ (by simp; omega)
    rw [r1, r2, e1, swap_app P (X ++ M) (Y ++ Q) x y (a + i) (b + i) ha (by simp; omega)]
    congr 1
    simp
theorem f51_ev (X Y P M Q : List S55) (a b n : Int) (hl : X.length = Y.length) (hs : Sm (P ++ (X ++ (M ++ (Y ++ Q)))).length) (ha : a = P.length) (hb : b = P.length + X.length + M.length) (hn : n = X.length) :
    Ev (fun k => fact_Fact_51.f k (P ++ (X ++ (M ++ (Y ++ Q)))) a b n) (P ++ (Y ++ (M ++ (X ++ Q)))) :=
  l51_ev X Y P M Q a b n 0 hl hs (by omega) (by omega) (by omega) (by unfold Sm at hs; simp at hs; omega) (by omega)

/-! ### the rotation -/
theorem l50_ev : ∀ (n : Nat) (U V P Q : List S55) (m i j : Int), U.length + V.length ≤ n → Sm (P ++ (U ++ (V ++ Q))).length → 0 < U.length → 0 < V.length → i = U.length → j = V.length → m = P.length + U.length →
    Ev (fun k => fact_Fact_50.l0 k (P ++ (U ++ (V ++ Q))) m i j) (P ++ (V ++ (U ++ Q)))
  | 0, U, V, P, Q, m, i, j, hn, hs, hu, hv, hi, hj, hm => by omega
  | n + 1, U, V, P, Q, m, i, j, hn, hs, hu, hv, hi, hj, hm => by
    have hs' : P.length + U.length + V.length + Q.length ≤ 1000000000000000000 := by unfold Sm at hs; simp at hs; omega
    have wm : wrap64 (m - i) = m - i := w64 (by omega) (by omega)
    rcases Nat.lt_trichotomy U.length V.length with h | h | h
    · -- i < j
      obtain ⟨V1, V2, rfl, h2⟩ : ∃ V1 V2, V = V1 ++ V2 ∧ V2.length = U.length := ⟨V.take (V.length - U.length), V.drop (V.length - U.length), (List.take_append_drop _ _).symm, by simp; omega⟩
      have hV : (V1 ++ V2).length = V1.length + V2.length := by simp
      have ex := f51_ev U V2 P V1 Q (m - i) (m + j - i) i h2.symm (by unfold Sm; simp; omega) (by omega) (by omega) (by omega)
      have ih := l50_ev n V2 V1 P (U ++ Q) m i (j - i) (by omega) (by unfold Sm; simp; omega) (by omega) (by omega) (by omega) (by omega) (by omega)
      refine Ev.step (g := fun k => (fact_Fact_51.f k (P ++ (U ++ ((V1 ++ V2) ++ Q))) (m - i) (m + j - i) i).bind fun t => fact_Fact_50.l0 k t m i (j - i)) ?_ fun k => ?_
      · have e : P ++ (U ++ ((V1 ++ V2) ++ Q)) = P ++ (U ++ (V1 ++ (V2 ++ Q))) := by simp
        rw [e]
        have e2 : P ++ ((V1 ++ V2) ++ (U ++ Q)) = P ++ (V1 ++ (V2 ++ (U ++ Q))) := by simp
        rw [e2]
        exact Ev.bind (g := fun k t => fact_Fact_50.l0 k t m i (j - i)) ex (ih.eq fun k => by simp)
      · show fact_Fact_50.l0 (k + 1) _ _ _ _ = _
        simp only [fact_Fact_50.l0]
        rw [if_neg (by omega), if_neg (by omega), wm, w64 (n := m + j) (by omega) (by omega), w64 (n := m + j - i) (by omega) (by omega), w64 (n := j - i) (by omega) (by omega)]
    · -- i = j
      have ex := f51_ev U V P [] Q (m - i) m i h (by unfold Sm; simp; omega) (by omega) (by simp; omega) (by omega)
      refine Ev.step (g := fun k => (fact_Fact_51.f k (P ++ (U ++ (V ++ Q))) (m - i) m i).bind fun t => some t) ?_ fun k => ?_
      · exact Ev.bind (g := fun _ t => some t) (by simpa using ex) (Ev.const fun _ => rfl)
      · show fact_Fact_50.l0 (k + 1) _ _ _ _ = _
        simp only [fact_Fact_50.l0]
        rw [if_pos (by omega), wm]
    · -- i > j
      obtain ⟨U1, U2, rfl, h2⟩ : ∃ U1 U2, U = U1 ++ U2 ∧ U1.length = V.length := ⟨U.take V.length, U.drop V.length, (List.take_append_drop _ _).symm, by simp; omega⟩
      have hU : (U1 ++ U2).length = U1.length + U2.length := by simp
      have ex := f51_ev U1 V P U2 Q (m - i) m j h2 (by unfold Sm; simp; omega) (by omega) (by omega) (by omega)
      have ih := l50_ev n U2 U1 (P ++ V) Q m (i - j) j (by omega) (by unfold Sm; simp; omega) (by omega) (by omega) (by omega) (by omega) (by simp; omega)
      refine Ev.step (g := fun k => (fact_Fact_51.f k (P ++ ((U1 ++ U2) ++ (V ++ Q))) (m - i) m j).bind fun t => fact_Fact_50.l0 k t m (i - j) j) ?_ fun k => ?_
      · have e : P ++ ((U1 ++ U2) ++ (V ++ Q)) = P ++ (U1 ++ (U2 ++ (V ++ Q))) := by simp
        rw [e]
        have e2 : P ++ (V ++ ((U1 ++ U2) ++ Q)) = (P ++ V) ++ (U1 ++ (U2 ++ Q)) := by simp
        rw [e2]
        exact Ev.bind (g := fun k t => fact_Fact_50.l0 k t m (i - j) j) ex (ih.eq fun k => by simp)
      · show fact_Fact_50.l0 (k + 1) _ _ _ _ = _
        simp only [fact_Fact_50.l0]
        rw [if_neg (by omega), if_pos (by omega), wm, w64 (n := i - j) (by omega) (by omega)]
theorem f50_ev (U V P Q : List S55) (a m b : Int) (hs : Sm (P ++ (U ++ (V ++ Q))).length) (hu : 0 < U.length) (hv : 0 < V.length) (ha : a = P.length) (hm : m = a + U.length) (hb : b = m + V.length) :
    Ev (fun k => fact_Fact_50.f k (P ++ (U ++ (V ++ Q))) a m b) (P ++ (V ++ (U ++ Q))) := by
  have hs' : P.length + U.length + V.length + Q.length ≤ 1000000000000000000 := by unfold Sm at hs; simp at hs; omega
  refine Ev.eq (l50_ev _ U V P Q m (m - a) (b - m) (Nat.le_refl _) hs hu hv (by omega) (by omega) (by omega)) fun k => ?_
  show fact_Fact_50.f k _ _ _ _ = _
  unfold fact_Fact_50.f
  rw [w64 (n := m - a) (by omega) (by omega), w64 (n := b - m) (by omega) (by omega)]
end Go.Proofs.Ytdckeflggcefbaa.Y
namespace Go.Proofs.Ytdckeflggcefbaa.Y
open Go.RowKit
set_option linter.unusedVariables false
set_option linter.unusedSimpArgs false
/-- The sum of a key's facts. -/
def amt (x : S44) : List S55 → Int
  | [] => 0
  | y :: l => (if cmpK x y.f0 = 0 then y.f1 else 0) + amt x l
/-- The sum of their sizes. -/
def abt (x : S44) : List S55 → Nat
  | [] => 0
  | y :: l => (if cmpK x y.f0 = 0 then y.f1.natAbs else 0) + abt x l
theorem amt_app (x : S44) : ∀ a b, amt x (a ++ b) = amt x a + amt x b
  | [], b => by simp [amt]
  | y :: a, b => by simp only [List.cons_append, amt, amt_app x a b]; omega
theorem abt_app (x : S44) : ∀ a b, abt x (a ++ b) = abt x a + abt x b
  | [], b => by simp [abt]
  | y :: a, b => by simp only [List.cons_append, abt, abt_app x a b]; omega
theorem amt_le_abt (x : S44) : ∀ l, (amt x l).natAbs ≤ abt x l
  | [] => by simp [amt, abt]
  | y :: l => by
    have := amt_le_abt x l
    simp only [amt, abt]
    split <;> omega
theorem eqv_key (x y : S55) : eqv x y = true ↔ cmpK x.f0 y.f0 = 0 := by simp [eqv, cmpS]
theorem amt_filter (x : S55) : ∀ l, amt x.f0 l = amt x.f0 (l.filter (eqv x))
  | [] => rfl
  | y :: l => by
    have ih := amt_filter x l
    by_cases h : cmpK x.f0 y.f0 = 0
    · rw [List.filter_cons_of_pos ((eqv_key x y).2 h)]
      simp only [amt, ih]
    · rw [List.filter_cons_of_neg (fun e => h ((eqv_key x y).1 e))]
      simp only [amt, if_neg h, ih]; omega
theorem abt_filter (x : S55) : ∀ l, abt x.f0 l = abt x.f0 (l.filter (eqv x))
  | [] => rfl
  | y :: l => by
    have ih := abt_filter x l
    by_cases h : cmpK x.f0 y.f0 = 0
    · rw [List.filter_cons_of_pos ((eqv_key x y).2 h)]
      simp only [abt, ih]
    · rw [List.filter_cons_of_neg (fun e => h ((eqv_key x y).1 e))]
      simp only [abt, if_neg h, ih]; omega
theorem SS.amt {l r : List S55} (h : SS l r) (x : S44) : amt x r = amt x l := by
  rw [amt_filter ⟨x, 0⟩ r, amt_filter ⟨x, 0⟩ l, h.2 ⟨x, 0⟩]
theorem SS.abt {l r : List S55} (h : SS l r) (x : S44) : abt x r = abt x l := by
  rw [abt_filter ⟨x, 0⟩ r, abt_filter ⟨x, 0⟩ l, h.2 ⟨x, 0⟩]
/-- Keys rise. -/
def Rise (l : List S55) : Prop := l.Pairwise fun x y => cmpS x y < 0
theorem amt_none (x : S44) : ∀ l : List S55, (∀ y ∈ l, ¬ cmpK x y.f0 = 0) → amt x l = 0
  | [], _ => rfl
  | y :: l, h => by
    simp only [amt, if_neg (h y (by simp)), amt_none x l (fun z hz => h z (by simp [hz]))]; omega
theorem abt_none (x : S44) : ∀ l : List S55, (∀ y ∈ l, ¬ cmpK x y.f0 = 0) → abt x l = 0
  | [], _ => rfl
  | y :: l, h => by
    simp only [abt, if_neg (h y (by simp)), abt_none x l (fun z hz => h z (by simp [hz]))]
/-- r is the cube of l. -/
structure IsCube (l r : List S55) : Prop where
  rise : Rise r
  some_ : ∀ y ∈ r, y.f1 ≠ 0
  sum : ∀ x, amt x r = amt x l
theorem Rise.head {y : S55} {l : List S55} (h : Rise (y :: l)) : amt y.f0 (y :: l) = y.f1 := by
  have := amt_none y.f0 l (fun z hz e => by have := (List.pairwise_cons.1 h).1 z hz; unfold cmpS at this; omega)
  simp only [amt, cmpK_good.refl, if_true, this]; omega
theorem Rise.below {y : S55} {x : S44} {l : List S55} (h : Rise (y :: l)) (hx : cmpK x y.f0 < 0) : amt x (y :: l) = 0 := by
  refine amt_none x _ fun z hz e => ?_
  rcases List.mem_cons.1 hz with rfl | hz
  · omega
  · have h1 := (List.pairwise_cons.1 h).1 z hz
    have := lt_le (x := ⟨x, 0⟩) (y := y) (z := z) hx (Int.le_of_lt h1)
    unfold cmpS at this
    simp only at this
    omega
theorem cube_one : ∀ (a b : List S55), Rise a → Rise b → (∀ y ∈ a, y.f1 ≠ 0) → (∀ y ∈ b, y.f1 ≠ 0) → (∀ x, amt x a = amt x b) → a = b
  | [], [], _, _, _, _, _ => rfl
  | [], y :: b, _, hb, _, nb, h => by
    have := h y.f0
    rw [hb.head] at this
    exact absurd this.symm (nb y (by simp))
  | y :: a, [], ha, _, na, _, h => by
    have := h y.f0
    rw [ha.head] at this
    exact absurd this (na y (by simp))
  | y :: a, z :: b, ha, hb, na, nb, h => by
    have anti := cmpK_good.anti y.f0 z.f0
    by_cases h1 : cmpK y.f0 z.f0 < 0
    · have := h y.f0
      rw [ha.head, hb.below h1] at this
      exact absurd this (na y (by simp))
    by_cases h2 : cmpK z.f0 y.f0 < 0
    · have := h z.f0
      rw [hb.head, ha.below h2] at this
      exact absurd this.symm (nb z (by simp))
    have e : y.f0 = z.f0 := (cmpK_zero _ _).1 (by omega)
    have e1 : y.f1 = z.f1 := by
      have := h y.f0
      rw [ha.head, e, hb.head] at this
      exact this
    have eyz : y = z := by
      cases y; cases z
      simp only at e e1
      subst e e1
      rfl
    subst eyz
    congr 1
    refine cube_one a b (List.pairwise_cons.1 ha).2 (List.pairwise_cons.1 hb).2 (fun w hw => na w (by simp [hw])) (fun w hw => nb w (by simp [hw])) fun x => ?_
    have := h x
    simp only [amt] at this
    omega
theorem IsCube.unique {l l' a b : List S55} (h : IsCube l a) (g : IsCube l' b) (e : ∀ x, amt x l = amt x l') : a = b :=
  cube_one a b h.rise g.rise h.some_ g.some_ fun x => by rw [h.sum, g.sum, e]
/-- Of a cube a key's sizes are its sum's size. -/
theorem Rise.abt : ∀ (l : List S55), Rise l → ∀ x, abt x l = (amt x l).natAbs
  | [], _, x => rfl
  | y :: l, h, x => by
    have ih := Rise.abt l (List.pairwise_cons.1 h).2 x
    by_cases e : cmpK x y.f0 = 0
    · have hn : ∀ z ∈ l, ¬ cmpK x z.f0 = 0 := fun z hz e2 => by
        have h1 := (List.pairwise_cons.1 h).1 z hz
        have e3 := (cmpK_zero _ _).1 e
        subst e3
        unfold cmpS at h1
        omega
      simp only [Y.abt, amt, if_pos e, abt_none x l hn, amt_none x l hn]
      omega
    · simp only [Y.abt, amt, if_neg e, ih]
      omega
theorem IsCube.abt {l r : List S55} (h : IsCube l r) (x : S44) : abt x r ≤ Y.abt x l := by
  rw [Rise.abt r h.rise x, h.sum]
  exact amt_le_abt x l
end Go.Proofs.Ytdckeflggcefbaa.Y
namespace Go.Proofs.Ytdckeflggcefbaa.Y
open Go.RowKit Go.Proofs.YtdckeflggcefbaaW.PrintWords Go.Proofs.YtdckeflggcefbaaW.PrintLast Go.Proofs.YtdckeflggcefbaaW.PrintMore
attribute [local go_sem] max2_int min2_int max_two min_two max_three min_three max_four min_four
set_option linter.unusedVariables false
set_option linter.unusedSimpArgs false

/-! ### comptrollerlaw09_Theirs: function 10 -/
def comptrollerlaw09_Theirs.l0 : Nat → List (S55) → List (S28) → Int → Int → Option ((List (S55)))
 | 0, _, _, _, _ => none
 | k + 1, x3, x6, x7, x8 => if x8 < x7 then (if 0 ≤ x8 then (if x8 < (x6.length : Int) then (if x3.length < 1759218604441 then (comptrollerlaw09_Theirs.l0 k (x3 ++ [(⟨(⟨(rd_T28 x6 x8).f0.f0, (rd_T28 x6 x8).f0.f1, (rd_T28 x6 x8).f0.f2, (rd_T28 x6 x8).f0.f3, (rd_T28 x6 x8).f0.f4⟩ : S44), (rd_T28 x6 x8).f1⟩ : S55)]) x6 x7 (wrap64 (x8 + 1))) else (none)) else (none)) else (none)) else (some x3)
def comptrollerlaw09_Theirs.f (k : Nat) (l0 : List (S28)) : Option ((List (S55))) := comptrollerlaw09_Theirs.l0 k ([] : List (S55)) l0 (l0.length : Int) 0
theorem comptrollerlaw09_Theirs.mono_l : ∀ k, (∀ y0 y1 y2 y3, LeO (comptrollerlaw09_Theirs.l0 k y0 y1 y2 y3) (comptrollerlaw09_Theirs.l0 (k + 1) y0 y1 y2 y3))
 | 0 => fun _ _ _ _ r h => by simp [comptrollerlaw09_Theirs.l0] at h
 | k + 1 => by
  have ih0 := comptrollerlaw09_Theirs.mono_l k
  ·intro y0 y1 y2 y3
   unfold comptrollerlaw09_Theirs.l0
   with_reducible repeat' first | apply ih0 | refine LeO.refl _ | refine LeO.none _ | refine LeO.ite ?_ ?_ | refine LeO.bind ?_ (fun _ => ?_)
theorem comptrollerlaw09_Theirs.mono : ∀ a0 k, LeO (comptrollerlaw09_Theirs.f k a0) (comptrollerlaw09_Theirs.f (k + 1) a0) := by
 intro a0 k
 have ih0 := comptrollerlaw09_Theirs.mono_l k
 unfold comptrollerlaw09_Theirs.f
 with_reducible repeat' first | apply ih0 | refine LeO.refl _ | refine LeO.none _ | refine LeO.ite ?_ ?_ | refine LeO.bind ?_ (fun _ => ?_)
set_option maxHeartbeats 8000000 in
set_option maxRecDepth 100000 in
theorem comptrollerlaw09_Theirs.calls (k : Nat) (A0 : Option Addr) (c0 : Nat) (l0 : List (S28)) (r : List (S55)) (w : World) (hr0 : Kd.C k28 w A0 l0.length l0) (hc0 : l0.length ≤ c0) (h : comptrollerlaw09_Theirs.f k l0 = some r) :
  Calls Try.prog 10 #[.slice A0 l0.length c0] w fun e w' => ∃ v0_ : Value, e = .returned (v0_) ∧ Kd.R k55 55 w' w.heap.size (fun _ => True) v0_ r ∧ Below w.heap.size w w' := by
 have hu28 := Try.underlying28; have hu24 := Try.underlying24; have hu55 := Try.underlying55; have HR0 := Aside0.mk hr0; have HC0 := Aside0.mk hc0; clear hr0 hc0
 have HB := Aside0.mk (Below.refl w.heap.size w)
 have H : (comptrollerlaw09_Theirs.l0 k ([] : List (S55)) l0 (l0.length : Int) 0) = some r := h
 clear h
 have H' := Aside0.mk H
 clear H
 go_enter Try.func10, Try.ntmps10
 go_wp2
 go_loopg [3, 8] k (fun kq v3 v8 w' => ∃ (x3_1 : List (S55)) (x8_1 : Int), v8 = .int .i64 x8_1 ∧ Aside0 (comptrollerlaw09_Theirs.l0 kq x3_1 l0 (l0.length : Int) x8_1 = some r) ∧ Aside0 (kq ≤ k) ∧ Aside0 (Kd.R k55 55 w' w.heap.size (fun _ => True) v3 x3_1) ∧ Aside0 (Below w.heap.size w w'))
 case atStart => exact ⟨(([] : List (S55))), (0), rs_, H', ⟨Nat.le_refl _⟩, ⟨by first | exact Kd.R_nil _ _ _ _ _ | exact Kd.N_nil _ _ _ _ _ | exact Kd.V_nil _ _ _ _ _ | exact Kd.Q_nil _ _ _ _ _ | exact Kd.S_nil _ _ _ _ _⟩, ⟨bw⟩⟩
 case round =>
  clear H'
  try clear c1
  obtain ⟨x3_1, x8_1, rfl, HA, HK1, HO_3, HB⟩ := hrel
  cases gk with
  | zero => exact absurd HA.out (by simp [comptrollerlaw09_Theirs.l0])
  | succ k1 =>
   have H := HA.out; clear HA
   simp only [comptrollerlaw09_Theirs.l0] at H
   by_cases c2 : x8_1 < (l0.length : Int)
   ·rw [if_pos c2] at H
    have c2b0 : decide (x8_1 < (l0.length : Int)) = true := decide_eq_true c2
    clear c2
    by_cases c3 : 0 ≤ x8_1
    ·rw [if_pos c3] at H
     have c3b0 : decide (0 ≤ x8_1) = true := decide_eq_true c3
     clear c3
     by_cases c4 : x8_1 < (l0.length : Int)
     ·rw [if_pos c4] at H
      have c4b0 : decide (x8_1 < (l0.length : Int)) = true := decide_eq_true c4
      clear c4
      by_cases c5 : x3_1.length < 1759218604441
      ·rw [if_pos c5] at H; have LMc5 := Aside0.mk c5; clear c5
       obtain ⟨y253, hy253⟩ : ∃ y_ : List (S55), y_ = (x3_1 ++ [(⟨(⟨(rd_T28 l0 x8_1).f0.f0, (rd_T28 l0 x8_1).f0.f1, (rd_T28 l0 x8_1).f0.f2, (rd_T28 l0 x8_1).f0.f3, (rd_T28 l0 x8_1).f0.f4⟩ : S44), (rd_T28 l0 x8_1).f1⟩ : S55)]) := ⟨_, rfl⟩
       replace H : (comptrollerlaw09_Theirs.l0 k1 y253 l0 (l0.length : Int) (wrap64 (x8_1 + 1))) = some r := rh hy253 H
       have Ny253 := Aside0.mk hy253; clear hy253
       have H' := Aside0.mk H
       clear H
       have p251 : 0 ≤ (x8_1 : Int) := of_decide_eq_true as_
       have q251 : x8_1 < (l0.length : Int) := of_decide_eq_true as_
       obtain ⟨ad251, e251, hx251_0, hx251_1, hx251_2, hx251_3, hx251_4, hx251_5⟩ := at_T28 HR0.out x8_1 p251 q251
       cases e251; replace hx251_0 := cb HB hx251_0; replace hx251_1 := cb HB hx251_1; replace hx251_2 := cb HB hx251_2; replace hx251_3 := cb HB hx251_3; replace hx251_4 := cb HB hx251_4; replace hx251_5 := cb HB hx251_5; replace p251 := eq_true p251; replace q251 := eq_true q251
       go_wp2_with (first | ((with_reducible refine gate_dst (N := 5) rfl ?_); refine box_event ?hg (N := 5) ?hd (cs := #[.string (⟨#[]⟩ : ByteArray), .string (⟨#[]⟩ : ByteArray), .string (⟨#[]⟩ : ByteArray), .string (⟨#[]⟩ : ByteArray), .int .i64 0, .int .i64 0]) (t := 28) ?hr ?_; (case hd => rfl); (case hg => rfl); (case hr => first | (go_simp; done) | (go_simp; rfl)); intro gb252 hg w6 hbox hb; have n0_ := Aside0.mk (Kd.R_below (kr HO_3) hb); have n1_ := Aside0.mk (below_step bw hb); have n2_ := Aside0.mk (hbox); have n3_ := Aside0.mk ((by rw [hg]; exact (below_size bw) : w.heap.size ≤ gb252)); have n4_ := Aside0.mk ((by rw [hg]; exact (below_size bw) : w.heap.size ≤ gb252)); clear HO_3; clear HB; have HO_3 := n0_; have HB := n1_; have BK252 := n2_; have GW252 := n3_; have GE252 := n4_; clear n0_ n1_ n2_ n3_ n4_; clear hb hbox hg; obtain ⟨hcz7_0, hcz7_1, hcz7_2, hcz7_3, hcz7_4, hcz7_5⟩ := bc6 BK252.out; have hfz7_0 := blk_frozen BK252.out 0; have hfz7_1 := blk_frozen BK252.out 1; have hfz7_2 := blk_frozen BK252.out 2; have hfz7_3 := blk_frozen BK252.out 3; have hfz7_4 := blk_frozen BK252.out 4; have hfz7_5 := blk_frozen BK252.out 5) | ((with_reducible refine gate_builtin (b := .append) (xs := #[.tmp 12, .tmp 18]) rfl ?_); at_builtin; refine Kd.R_append k55 (w0 := w) w.heap.size rfl (.tmp 12) (.tmp 18) 29 55 (.agg #[(.string ⟨#[]⟩), (.string ⟨#[]⟩), (.string ⟨#[]⟩), (.string ⟨#[]⟩), (.int .i64 0), (.int .i64 0)]) 80 rfl Try.underlying29 info55 rfl (by decide) (by omega) u3 x3_1 (⟨(⟨(rd_T28 l0 x8_1).f0.f0, (rd_T28 l0 x8_1).f0.f1, (rd_T28 l0 x8_1).f0.f2, (rd_T28 l0 x8_1).f0.f3, (rd_T28 l0 x8_1).f0.f4⟩ : S44), (rd_T28 l0 x8_1).f1⟩ : S55) [.string ((rd_T28 l0 x8_1).f0.f0), .string ((rd_T28 l0 x8_1).f0.f1), .string ((rd_T28 l0 x8_1).f0.f2), .string ((rd_T28 l0 x8_1).f0.f3), .int .i64 ((rd_T28 l0 x8_1).f0.f4), .int .i64 ((rd_T28 l0 x8_1).f1)] (fun _ => True) (fun _ => False) rfl (by first | (go_simp; done) | (go_simp; rfl)) ?aP (fun _ hk => hk.elim) ?aF ?aO ?aB ?aS ?aL ?_; (case aP => exact k55_mkM _ _ _ (⟨(⟨(rd_T28 l0 x8_1).f0.f0, (rd_T28 l0 x8_1).f0.f1, (rd_T28 l0 x8_1).f0.f2, (rd_T28 l0 x8_1).f0.f3, (rd_T28 l0 x8_1).f0.f4⟩ : S44), (rd_T28 l0 x8_1).f1⟩ : S55)); (case aB => exact bx); (case aF => exact (fun _ _ => trivial)); (case aO => exact (by (with_reducible repeat (first | apply Kd.R_alloc | apply Kd.R_drewN | apply Kd.R_drew)); exact Kd.R_mono (rf28 gb252 (rd_T28 l0 x8_1) (Kd.R_types HO_3.out BK252.out (by decide)) (fun _ hk => hk.2)) (fun _ hk => trivial))); (case aS => exact (below_size bx)); (case aL => have := LMc5.out; omega); intro v254 w8 ho hb hg hat; rw [← Ny253.out] at ho; have n0_ := Aside0.mk (blk_grown (g := gb252) (o := .cells #[.string ((rd_T28 l0 x8_1).f0.f0), .string ((rd_T28 l0 x8_1).f0.f1), .string ((rd_T28 l0 x8_1).f0.f2), .string ((rd_T28 l0 x8_1).f0.f3), .int .i64 ((rd_T28 l0 x8_1).f0.f4), .int .i64 ((rd_T28 l0 x8_1).f1)] 28 (0, 0)) (bp28 BK252 (rd_T28 l0 x8_1)) hg (Kd.R_ne HO_3.out BK252.out (by decide))); have n1_ := Aside0.mk (hb); have n2_ := Aside0.mk (ho); clear BK252; clear HB; clear HO_3; have BK252 := n0_; have HB := n1_; have HO255 := n2_; clear n0_ n1_ n2_; clear ho hb hg hat))
       go_roundg k1
       case measure => have := HK1.out; omega
       case rel => exact ⟨(y253), (wrap64 (x8_1 + 1)), rs_, H', ⟨by have := HK1.out; omega⟩, ⟨kr HO255⟩, ⟨bx⟩⟩
      ·rw [if_neg c5] at H
       exact absurd H (by simp)
     ·rw [if_neg c4] at H
      exact absurd H (by simp)
    ·rw [if_neg c3] at H
     exact absurd H (by simp)
   ·rw [if_neg c2] at H
    have c2b0 : decide (x8_1 < (l0.length : Int)) = false := decide_eq_false c2
    clear c2
    obtain rfl := Option.some.inj H
    go_wp2; go_ret
    exact ⟨_, by first | rfl | (simp [errW_none, errW_some] <;> rfl) | (simp [*, errW_none, errW_some] <;> rfl), kr HO_3, bw⟩
/-! ### comptrollerlaw09_Ours: function 15 -/
def comptrollerlaw09_Ours.l0 : Nat → List (S28) → List (S55) → Int → Int → Option ((List (S28)))
 | 0, _, _, _, _ => none
 | k + 1, x3, x6, x7, x8 => if x8 < x7 then (if 0 ≤ x8 then (if x8 < (x6.length : Int) then (if x3.length < 1759218604441 then (comptrollerlaw09_Ours.l0 k (x3 ++ [(⟨(⟨(rd_T55 x6 x8).f0.f0, (rd_T55 x6 x8).f0.f1, (rd_T55 x6 x8).f0.f2, (rd_T55 x6 x8).f0.f3, (rd_T55 x6 x8).f0.f4⟩ : S24), (rd_T55 x6 x8).f1⟩ : S28)]) x6 x7 (wrap64 (x8 + 1))) else (none)) else (none)) else (none)) else (some x3)
def comptrollerlaw09_Ours.f (k : Nat) (l0 : List (S55)) : Option ((List (S28))) := comptrollerlaw09_Ours.l0 k ([] : List (S28)) l0 (l0.length : Int) 0
theorem comptrollerlaw09_Ours.mono_l : ∀ k, (∀ y0 y1 y2 y3, LeO (comptrollerlaw09_Ours.l0 k y0 y1 y2 y3) (comptrollerlaw09_Ours.l0 (k + 1) y0 y1 y2 y3))
 | 0 => fun _ _ _ _ r h => by simp [comptrollerlaw09_Ours.l0] at h
 | k + 1 => by
  have ih0 := comptrollerlaw09_Ours.mono_l k
  ·intro y0 y1 y2 y3
   unfold comptrollerlaw09_Ours.l0
   with_reducible repeat' first | apply ih0 | refine LeO.refl _ | refine LeO.none _ | refine LeO.ite ?_ ?_ | refine LeO.bind ?_ (fun _ => ?_)
theorem comptrollerlaw09_Ours.mono : ∀ a0 k, LeO (comptrollerlaw09_Ours.f k a0) (comptrollerlaw09_Ours.f (k + 1) a0) := by
 intro a0 k
 have ih0 := comptrollerlaw09_Ours.mono_l k
 unfold comptrollerlaw09_Ours.f
 with_reducible repeat' first | apply ih0 | refine LeO.refl _ | refine LeO.none _ | refine LeO.ite ?_ ?_ | refine LeO.bind ?_ (fun _ => ?_)
set_option maxHeartbeats 8000000 in
set_option maxRecDepth 100000 in
theorem comptrollerlaw09_Ours.calls (k : Nat) (A0 : Option Addr) (c0 : Nat) (l0 : List (S55)) (r : List (S28)) (w : World) (hr0 : Kd.C k55 w A0 l0.length l0) (hc0 : l0.length ≤ c0) (h : comptrollerlaw09_Ours.f k l0 = some r) :
  Calls Try.prog 15 #[.slice A0 l0.length c0] w fun e w' => ∃ v0_ : Value, e = .returned (v0_) ∧ Kd.R k28 28 w' w.heap.size (fun _ => True) v0_ r ∧ Below w.heap.size w w' := by
 have hu55 := Try.underlying55; have hu44 := Try.underlying44; have hu28 := Try.underlying28; have HR0 := Aside0.mk hr0; have HC0 := Aside0.mk hc0; clear hr0 hc0
 have HB := Aside0.mk (Below.refl w.heap.size w)
 have H : (comptrollerlaw09_Ours.l0 k ([] : List (S28)) l0 (l0.length : Int) 0) = some r := h
 clear h
 have H' := Aside0.mk H
 clear H
 go_enter Try.func15, Try.ntmps15
 go_wp2
 go_loopg [3, 8] k (fun kq v3 v8 w' => ∃ (x3_1 : List (S28)) (x8_1 : Int), v8 = .int .i64 x8_1 ∧ Aside0 (comptrollerlaw09_Ours.l0 kq x3_1 l0 (l0.length : Int) x8_1 = some r) ∧ Aside0 (kq ≤ k) ∧ Aside0 (Kd.R k28 28 w' w.heap.size (fun _ => True) v3 x3_1) ∧ Aside0 (Below w.heap.size w w'))
 case atStart => exact ⟨(([] : List (S28))), (0), rs_, H', ⟨Nat.le_refl _⟩, ⟨by first | exact Kd.R_nil _ _ _ _ _ | exact Kd.N_nil _ _ _ _ _ | exact Kd.V_nil _ _ _ _ _ | exact Kd.Q_nil _ _ _ _ _ | exact Kd.S_nil _ _ _ _ _⟩, ⟨bw⟩⟩
 case round =>
  clear H'
  try clear c1
  obtain ⟨x3_1, x8_1, rfl, HA, HK1, HO_3, HB⟩ := hrel
  cases gk with
  | zero => exact absurd HA.out (by simp [comptrollerlaw09_Ours.l0])
  | succ k1 =>
   have H := HA.out; clear HA
   simp only [comptrollerlaw09_Ours.l0] at H
   by_cases c2 : x8_1 < (l0.length : Int)
   ·rw [if_pos c2] at H
    have c2b0 : decide (x8_1 < (l0.length : Int)) = true := decide_eq_true c2
    clear c2
    by_cases c3 : 0 ≤ x8_1
    ·rw [if_pos c3] at H
     have c3b0 : decide (0 ≤ x8_1) = true := decide_eq_true c3
     clear c3
     by_cases c4 : x8_1 < (l0.length : Int)
     ·rw [if_pos c4] at H
      have c4b0 : decide (x8_1 < (l0.length : Int)) = true := decide_eq_true c4
      clear c4
      by_cases c5 : x3_1.length < 1759218604441
      ·rw [if_pos c5] at H; have LMc5 := Aside0.mk c5; clear c5
       obtain ⟨y358, hy358⟩ : ∃ y_ : List (S28), y_ = (x3_1 ++ [(⟨(⟨(rd_T55 l0 x8_1).f0.f0, (rd_T55 l0 x8_1).f0.f1, (rd_T55 l0 x8_1).f0.f2, (rd_T55 l0 x8_1).f0.f3, (rd_T55 l0 x8_1).f0.f4⟩ : S24), (rd_T55 l0 x8_1).f1⟩ : S28)]) := ⟨_, rfl⟩
       replace H : (comptrollerlaw09_Ours.l0 k1 y358 l0 (l0.length : Int) (wrap64 (x8_1 + 1))) = some r := rh hy358 H
       have Ny358 := Aside0.mk hy358; clear hy358
       have H' := Aside0.mk H
       clear H
       have p356 : 0 ≤ (x8_1 : Int) := of_decide_eq_true as_
       have q356 : x8_1 < (l0.length : Int) := of_decide_eq_true as_
       obtain ⟨ad356, e356, hx356_0, hx356_1, hx356_2, hx356_3, hx356_4, hx356_5⟩ := at_T55 HR0.out x8_1 p356 q356
       cases e356; replace hx356_0 := cb HB hx356_0; replace hx356_1 := cb HB hx356_1; replace hx356_2 := cb HB hx356_2; replace hx356_3 := cb HB hx356_3; replace hx356_4 := cb HB hx356_4; replace hx356_5 := cb HB hx356_5; replace p356 := eq_true p356; replace q356 := eq_true q356
       go_wp2_with (first | ((with_reducible refine gate_dst (N := 5) rfl ?_); refine box_event ?hg (N := 5) ?hd (cs := #[.string (⟨#[]⟩ : ByteArray), .string (⟨#[]⟩ : ByteArray), .string (⟨#[]⟩ : ByteArray), .string (⟨#[]⟩ : ByteArray), .int .i64 0, .int .i64 0]) (t := 55) ?hr ?_; (case hd => rfl); (case hg => rfl); (case hr => first | (go_simp; done) | (go_simp; rfl)); intro gb357 hg w6 hbox hb; have n0_ := Aside0.mk (Kd.R_below (kr HO_3) hb); have n1_ := Aside0.mk (below_step bw hb); have n2_ := Aside0.mk (hbox); have n3_ := Aside0.mk ((by rw [hg]; exact (below_size bw) : w.heap.size ≤ gb357)); have n4_ := Aside0.mk ((by rw [hg]; exact (below_size bw) : w.heap.size ≤ gb357)); clear HO_3; clear HB; have HO_3 := n0_; have HB := n1_; have BK357 := n2_; have GW357 := n3_; have GE357 := n4_; clear n0_ n1_ n2_ n3_ n4_; clear hb hbox hg; obtain ⟨hcz7_0, hcz7_1, hcz7_2, hcz7_3, hcz7_4, hcz7_5⟩ := bc6 BK357.out; have hfz7_0 := blk_frozen BK357.out 0; have hfz7_1 := blk_frozen BK357.out 1; have hfz7_2 := blk_frozen BK357.out 2; have hfz7_3 := blk_frozen BK357.out 3; have hfz7_4 := blk_frozen BK357.out 4; have hfz7_5 := blk_frozen BK357.out 5) | ((with_reducible refine gate_builtin (b := .append) (xs := #[.tmp 12, .tmp 18]) rfl ?_); at_builtin; refine Kd.R_append k28 (w0 := w) w.heap.size rfl (.tmp 12) (.tmp 18) 22 28 (.agg #[(.string ⟨#[]⟩), (.string ⟨#[]⟩), (.string ⟨#[]⟩), (.string ⟨#[]⟩), (.int .i64 0), (.int .i64 0)]) 80 rfl Try.underlying22 info28 rfl (by decide) (by omega) u3 x3_1 (⟨(⟨(rd_T55 l0 x8_1).f0.f0, (rd_T55 l0 x8_1).f0.f1, (rd_T55 l0 x8_1).f0.f2, (rd_T55 l0 x8_1).f0.f3, (rd_T55 l0 x8_1).f0.f4⟩ : S24), (rd_T55 l0 x8_1).f1⟩ : S28) [.string ((rd_T55 l0 x8_1).f0.f0), .string ((rd_T55 l0 x8_1).f0.f1), .string ((rd_T55 l0 x8_1).f0.f2), .string ((rd_T55 l0 x8_1).f0.f3), .int .i64 ((rd_T55 l0 x8_1).f0.f4), .int .i64 ((rd_T55 l0 x8_1).f1)] (fun _ => True) (fun _ => False) rfl (by first | (go_simp; done) | (go_simp; rfl)) ?aP (fun _ hk => hk.elim) ?aF ?aO ?aB ?aS ?aL ?_; (case aP => exact k28_mkM _ _ _ (⟨(⟨(rd_T55 l0 x8_1).f0.f0, (rd_T55 l0 x8_1).f0.f1, (rd_T55 l0 x8_1).f0.f2, (rd_T55 l0 x8_1).f0.f3, (rd_T55 l0 x8_1).f0.f4⟩ : S24), (rd_T55 l0 x8_1).f1⟩ : S28)); (case aB => exact bx); (case aF => exact (fun _ _ => trivial)); (case aO => exact (by (with_reducible repeat (first | apply Kd.R_alloc | apply Kd.R_drewN | apply Kd.R_drew)); exact Kd.R_mono (rf55 gb357 (rd_T55 l0 x8_1) (Kd.R_types HO_3.out BK357.out (by decide)) (fun _ hk => hk.2)) (fun _ hk => trivial))); (case aS => exact (below_size bx)); (case aL => have := LMc5.out; omega); intro v359 w8 ho hb hg hat; rw [← Ny358.out] at ho; have n0_ := Aside0.mk (blk_grown (g := gb357) (o := .cells #[.string ((rd_T55 l0 x8_1).f0.f0), .string ((rd_T55 l0 x8_1).f0.f1), .string ((rd_T55 l0 x8_1).f0.f2), .string ((rd_T55 l0 x8_1).f0.f3), .int .i64 ((rd_T55 l0 x8_1).f0.f4), .int .i64 ((rd_T55 l0 x8_1).f1)] 55 (0, 0)) (bp55 BK357 (rd_T55 l0 x8_1)) hg (Kd.R_ne HO_3.out BK357.out (by decide))); have n1_ := Aside0.mk (hb); have n2_ := Aside0.mk (ho); clear BK357; clear HB; clear HO_3; have BK357 := n0_; have HB := n1_; have HO360 := n2_; clear n0_ n1_ n2_; clear ho hb hg hat))
       go_roundg k1
       case measure => have := HK1.out; omega
       case rel => exact ⟨(y358), (wrap64 (x8_1 + 1)), rs_, H', ⟨by have := HK1.out; omega⟩, ⟨kr HO360⟩, ⟨bx⟩⟩
      ·rw [if_neg c5] at H
       exact absurd H (by simp)
     ·rw [if_neg c4] at H
      exact absurd H (by simp)
    ·rw [if_neg c3] at H
     exact absurd H (by simp)
   ·rw [if_neg c2] at H
    have c2b0 : decide (x8_1 < (l0.length : Int)) = false := decide_eq_false c2
    clear c2
    obtain rfl := Option.some.inj H
    go_wp2; go_ret
    exact ⟨_, by first | rfl | (simp [errW_none, errW_some] <;> rfl) | (simp [*, errW_none, errW_some] <;> rfl), kr HO_3, bw⟩
theorem eqA24 (d : Nat) (w : World) (x0 y0 : ByteArray) (x1 y1 : ByteArray) (x2 y2 : ByteArray) (x3 y3 : ByteArray) (x4 y4 : Int) :
  (Op.equalIn (d + 2) 24 (.agg #[.string x0, .string x1, .string x2, .string x3, .int .i64 x4]) (.agg #[.string y0, .string y1, .string y2, .string y3, .int .i64 y4])).run Try.prog w = .ok (x0.toList == y0.toList && (x1.toList == y1.toList && (x2.toList == y2.toList && (x3.toList == y3.toList && (x4 == y4))))) w := by
 refine eqA_of Try.underlying24 (by kernel_rfl) ?_
 refine eqf_cons (by rfl) (by go_simp; rfl) (by go_simp; rfl) (by go_simp) ?_
 refine eqf_cons (by rfl) (by go_simp; rfl) (by go_simp; rfl) (by go_simp) ?_
 refine eqf_cons (by rfl) (by go_simp; rfl) (by go_simp; rfl) (by go_simp) ?_
 refine eqf_cons (by rfl) (by go_simp; rfl) (by go_simp; rfl) (by go_simp) ?_
 exact eqf_last (by rfl) (by go_simp; rfl) (by go_simp; rfl) (by go_simp)
theorem eqA28 (d : Nat) (w : World) (x0 y0 : ByteArray) (x1 y1 : ByteArray) (x2 y2 : ByteArray) (x3 y3 : ByteArray) (x4 y4 : Int) (x5 y5 : Int) :
  (Op.equalIn (d + 3) 28 (.agg #[.string x0, .string x1, .string x2, .string x3, .int .i64 x4, .int .i64 x5]) (.agg #[.string y0, .string y1, .string y2, .string y3, .int .i64 y4, .int .i64 y5])).run Try.prog w = .ok ((x0.toList == y0.toList && (x1.toList == y1.toList && (x2.toList == y2.toList && (x3.toList == y3.toList && (x4 == y4))))) && (x5 == y5)) w := by
 refine eqA_of Try.underlying28 (by kernel_rfl) ?_
 refine eqf_cons (by rfl) (by go_simp) (by go_simp) (eqA24 (d + 0) w _ _ _ _ _ _ _ _ _ _) ?_
 exact eqf_last (by rfl) (by go_simp; rfl) (by go_simp; rfl) (by go_simp)
end Go.Proofs.Ytdckeflggcefbaa.Y
namespace Go.Proofs.Ytdckeflggcefbaa.Y
open Go.RowKit Go.Proofs.YtdckeflggcefbaaW.PrintWords Go.Proofs.YtdckeflggcefbaaW.PrintLast Go.Proofs.YtdckeflggcefbaaW.PrintMore
attribute [local go_sem] max2_int min2_int max_two min_two max_three min_three max_four min_four
set_option linter.unusedVariables false
set_option linter.unusedSimpArgs false

attribute [local go_sem high] eqA28
/-! ### comptrollerref09_Same: function 14 -/
def comptrollerref09_Same.l0 : Nat → List (S28) → List (S28) → Int → Option (Bool)
 | 0, _, _, _ => none
 | k + 1, x0, x1, x5 => if x5 < (x0.length : Int) then (if 0 ≤ x5 then (if x5 < (x1.length : Int) then (if ((!((((rd_T28 x0 x5).f0.f0).toList) == (((rd_T28 x1 x5).f0.f0).toList)) || (!((((rd_T28 x0 x5).f0.f1).toList) == (((rd_T28 x1 x5).f0.f1).toList)) || (!((((rd_T28 x0 x5).f0.f2).toList) == (((rd_T28 x1 x5).f0.f2).toList)) || (!((((rd_T28 x0 x5).f0.f3).toList) == (((rd_T28 x1 x5).f0.f3).toList)) || (!(((rd_T28 x0 x5).f0.f4) == ((rd_T28 x1 x5).f0.f4))))))) || (!(((rd_T28 x0 x5).f1) == ((rd_T28 x1 x5).f1)))) = true then (some false) else (comptrollerref09_Same.l0 k x0 x1 (wrap64 (x5 + 1)))) else (none)) else (none)) else (some true)
def comptrollerref09_Same.f (k : Nat) (l0 : List (S28)) (l1 : List (S28)) : Option (Bool) := if (l0.length : Int) = (l1.length : Int) then (comptrollerref09_Same.l0 k l0 l1 0) else (some false)
theorem comptrollerref09_Same.mono_l : ∀ k, (∀ y0 y1 y2, LeO (comptrollerref09_Same.l0 k y0 y1 y2) (comptrollerref09_Same.l0 (k + 1) y0 y1 y2))
 | 0 => fun _ _ _ r h => by simp [comptrollerref09_Same.l0] at h
 | k + 1 => by
  have ih0 := comptrollerref09_Same.mono_l k
  ·intro y0 y1 y2
   unfold comptrollerref09_Same.l0
   with_reducible repeat' first | apply ih0 | refine LeO.refl _ | refine LeO.none _ | refine LeO.ite ?_ ?_ | refine LeO.bind ?_ (fun _ => ?_)
theorem comptrollerref09_Same.mono : ∀ a0 a1 k, LeO (comptrollerref09_Same.f k a0 a1) (comptrollerref09_Same.f (k + 1) a0 a1) := by
 intro a0 a1 k
 have ih0 := comptrollerref09_Same.mono_l k
 unfold comptrollerref09_Same.f
 with_reducible repeat' first | apply ih0 | refine LeO.refl _ | refine LeO.none _ | refine LeO.ite ?_ ?_ | refine LeO.bind ?_ (fun _ => ?_)
set_option maxHeartbeats 8000000 in
set_option maxRecDepth 100000 in
theorem comptrollerref09_Same.calls (k : Nat) (A0 : Option Addr) (c0 : Nat) (l0 : List (S28)) (A1 : Option Addr) (c1 : Nat) (l1 : List (S28)) (r : Bool) (w : World) (hr0 : Kd.C k28 w A0 l0.length l0) (hc0 : l0.length ≤ c0) (hr1 : Kd.C k28 w A1 l1.length l1) (hc1 : l1.length ≤ c1) (h : comptrollerref09_Same.f k l0 l1 = some r) :
  Calls Try.prog 14 #[.slice A0 l0.length c0, .slice A1 l1.length c1] w fun e w' => e = .returned (.bool r) ∧ Drawn0 w w' := by
 have hu28 := Try.underlying28; have HR0 := Aside0.mk hr0; have HC0 := Aside0.mk hc0; clear hr0 hc0; have HR1 := Aside0.mk hr1; have HC1 := Aside0.mk hc1; clear hr1 hc1
 have H : (if (l0.length : Int) = (l1.length : Int) then (comptrollerref09_Same.l0 k l0 l1 0) else (some false)) = some r := h
 clear h
 by_cases c3 : (l0.length : Int) = (l1.length : Int)
 ·rw [if_pos c3] at H
  have c3b0 : ((l0.length : Int) == (l1.length : Int)) = true := beq_iff_eq.mpr c3
  have c3b1 : ((l0.length : Int) != (l1.length : Int)) = false := bne_eq_false_iff_eq.mpr c3
  have c3b2 : (l0.length == l1.length) = true := by first | simpa using c3 | (simp at c3 ⊢; omega)
  clear c3
  have H' := Aside0.mk H
  clear H
  go_enter Try.func14, Try.ntmps14
  go_wp2
  repeat (go_quiet (fail); try go_wp2)
  go_loopg [5] k (fun kq v5 w' => ∃ (x5_1 : Int), v5 = .int .i64 x5_1 ∧ Aside0 (comptrollerref09_Same.l0 kq l0 l1 x5_1 = some r) ∧ Aside0 (kq ≤ k) ∧ Drawn0 w w')
  case atStart => exact ⟨(0), rs_, H', ⟨Nat.le_refl _⟩, by repeat (first | exact Drawn0.refl _ | apply Drawn0.step)⟩
  case round =>
   clear H'
   (try clear c1); (try clear p2); (try clear c3); (try clear c3b0); (try clear c3b1); (try clear c3b2)
   obtain ⟨x5_1, rfl, HA, HK1, ⟨m1, rfl⟩⟩ := hrel
   cases gk with
   | zero => exact absurd HA.out (by simp [comptrollerref09_Same.l0])
   | succ k1 =>
    have H := HA.out; clear HA
    simp only [comptrollerref09_Same.l0] at H
    by_cases c4 : x5_1 < (l0.length : Int)
    ·rw [if_pos c4] at H
     have c4b0 : decide (x5_1 < (l0.length : Int)) = true := decide_eq_true c4
     clear c4
     by_cases c5 : 0 ≤ x5_1
     ·rw [if_pos c5] at H
      have c5b0 : decide (0 ≤ x5_1) = true := decide_eq_true c5
      clear c5
      by_cases c6 : x5_1 < (l1.length : Int)
      ·rw [if_pos c6] at H
       have c6b0 : decide (x5_1 < (l1.length : Int)) = true := decide_eq_true c6
       clear c6
       by_cases c7 : ((!((((rd_T28 l0 x5_1).f0.f0).toList) == (((rd_T28 l1 x5_1).f0.f0).toList)) || (!((((rd_T28 l0 x5_1).f0.f1).toList) == (((rd_T28 l1 x5_1).f0.f1).toList)) || (!((((rd_T28 l0 x5_1).f0.f2).toList) == (((rd_T28 l1 x5_1).f0.f2).toList)) || (!((((rd_T28 l0 x5_1).f0.f3).toList) == (((rd_T28 l1 x5_1).f0.f3).toList)) || (!(((rd_T28 l0 x5_1).f0.f4) == ((rd_T28 l1 x5_1).f0.f4))))))) || (!(((rd_T28 l0 x5_1).f1) == ((rd_T28 l1 x5_1).f1)))) = true
       ·rw [if_pos c7] at H
        have c7b0 : ((!((((rd_T28 l0 x5_1).f0.f0).toList) == (((rd_T28 l1 x5_1).f0.f0).toList)) || (!((((rd_T28 l0 x5_1).f0.f1).toList) == (((rd_T28 l1 x5_1).f0.f1).toList)) || (!((((rd_T28 l0 x5_1).f0.f2).toList) == (((rd_T28 l1 x5_1).f0.f2).toList)) || (!((((rd_T28 l0 x5_1).f0.f3).toList) == (((rd_T28 l1 x5_1).f0.f3).toList)) || (!(((rd_T28 l0 x5_1).f0.f4) == ((rd_T28 l1 x5_1).f0.f4))))))) || (!(((rd_T28 l0 x5_1).f1) == ((rd_T28 l1 x5_1).f1)))) = true := c7
        clear c7
        obtain rfl := Option.some.inj H
        have p354 : 0 ≤ (x5_1 : Int) := of_decide_eq_true as_
        have q354 : x5_1 < (l0.length : Int) := of_decide_eq_true as_
        obtain ⟨ad354, e354, hx354_0, hx354_1, hx354_2, hx354_3, hx354_4, hx354_5⟩ := at_T28 HR0.out x5_1 p354 q354
        cases e354; replace p354 := eq_true p354; replace q354 := eq_true q354
        have p355 : 0 ≤ (x5_1 : Int) := of_decide_eq_true as_
        have q355 : x5_1 < (l1.length : Int) := of_decide_eq_true as_
        obtain ⟨ad355, e355, hx355_0, hx355_1, hx355_2, hx355_3, hx355_4, hx355_5⟩ := at_T28 HR1.out x5_1 p355 q355
        cases e355; replace p355 := eq_true p355; replace q355 := eq_true q355; go_wp2
        repeat (go_quiet (fail); try go_wp2)
        go_ret
        exact ⟨by first | rfl | (simp; done) | (simp [*]; done), by repeat (first | exact Drawn0.refl _ | apply Drawn0.step)⟩
       ·rw [if_neg c7] at H
        have c7b0 : ((!((((rd_T28 l0 x5_1).f0.f0).toList) == (((rd_T28 l1 x5_1).f0.f0).toList)) || (!((((rd_T28 l0 x5_1).f0.f1).toList) == (((rd_T28 l1 x5_1).f0.f1).toList)) || (!((((rd_T28 l0 x5_1).f0.f2).toList) == (((rd_T28 l1 x5_1).f0.f2).toList)) || (!((((rd_T28 l0 x5_1).f0.f3).toList) == (((rd_T28 l1 x5_1).f0.f3).toList)) || (!(((rd_T28 l0 x5_1).f0.f4) == ((rd_T28 l1 x5_1).f0.f4))))))) || (!(((rd_T28 l0 x5_1).f1) == ((rd_T28 l1 x5_1).f1)))) = false := by simpa using c7
        clear c7
        have H' := Aside0.mk H
        clear H
        have p354 : 0 ≤ (x5_1 : Int) := of_decide_eq_true as_
        have q354 : x5_1 < (l0.length : Int) := of_decide_eq_true as_
        obtain ⟨ad354, e354, hx354_0, hx354_1, hx354_2, hx354_3, hx354_4, hx354_5⟩ := at_T28 HR0.out x5_1 p354 q354
        cases e354; replace p354 := eq_true p354; replace q354 := eq_true q354
        have p355 : 0 ≤ (x5_1 : Int) := of_decide_eq_true as_
        have q355 : x5_1 < (l1.length : Int) := of_decide_eq_true as_
        obtain ⟨ad355, e355, hx355_0, hx355_1, hx355_2, hx355_3, hx355_4, hx355_5⟩ := at_T28 HR1.out x5_1 p355 q355
        cases e355; replace p355 := eq_true p355; replace q355 := eq_true q355; go_wp2
        repeat (go_quiet (fail); try go_wp2)
        go_roundg k1
        case measure => have := HK1.out; omega
        case rel => exact ⟨(wrap64 (x5_1 + 1)), rs_, H', ⟨by have := HK1.out; omega⟩, by repeat (first | exact Drawn0.refl _ | apply Drawn0.step)⟩
      ·rw [if_neg c6] at H
       exact absurd H (by simp)
     ·rw [if_neg c5] at H
      exact absurd H (by simp)
    ·rw [if_neg c4] at H
     have c4b0 : decide (x5_1 < (l0.length : Int)) = false := decide_eq_false c4
     clear c4
     obtain rfl := Option.some.inj H
     go_wp2
     repeat (go_quiet (fail); try go_wp2)
     go_ret
     exact ⟨by first | rfl | (simp; done) | (simp [*]; done), by repeat (first | exact Drawn0.refl _ | apply Drawn0.step)⟩
 ·rw [if_neg c3] at H
  have c3b0 : ((l0.length : Int) == (l1.length : Int)) = false := beq_eq_false_iff_ne.mpr c3
  have c3b1 : ((l0.length : Int) != (l1.length : Int)) = true := bne_iff_ne.mpr c3
  have c3b2 : (l0.length == l1.length) = false := by first | simpa using c3 | (simp at c3 ⊢; omega)
  obtain rfl := Option.some.inj H
  go_enter Try.func14, Try.ntmps14
  go_wp2
  repeat (go_quiet (fail); try go_wp2)
  go_ret
  exact ⟨by first | rfl | (simp; done) | (simp [*]; done), by repeat (first | exact Drawn0.refl _ | apply Drawn0.step)⟩

end Go.Proofs.Ytdckeflggcefbaa.Y
namespace Go.Proofs.Ytdckeflggcefbaa.Y
open Go.RowKit Go.Proofs.YtdckeflggcefbaaW.PrintWords Go.Proofs.YtdckeflggcefbaaW.PrintLast Go.Proofs.YtdckeflggcefbaaW.PrintMore
set_option linter.unusedVariables false
set_option linter.unusedSimpArgs false
theorem swap_app' (P M Q : List S55) (x y : S55) (i j : Int) (hi : i = P.length) (hj : j = P.length + 1 + M.length) :
    ((P ++ (x :: (M ++ y :: Q))).set j.toNat x).set i.toNat y = P ++ (y :: (M ++ x :: Q)) := by
  rw [List.set_comm _ _ (by omega)]
  exact swap_app P M Q x y i j hi hj
theorem Ev.some {α : Type} {f : Nat → Option α} {r : α} (h : ∀ k, f (k + 1) = Option.some r) : Ev f r := ⟨1, fun k hk => by obtain ⟨k, rfl⟩ : ∃ j, k = j + 1 := ⟨k - 1, by omega⟩; exact h k⟩
theorem l47_l1_end {xs : List S55} {a b i j : Int} (k : Nat) (h : ¬ j > a) (hi : 0 ≤ i) (hi2 : i ≤ 1000000000000000000) : fact_Fact_47.l1 (k + 1) xs a b i j = fact_Fact_47.l0 k xs a b (i + 1) := by
  simp only [fact_Fact_47.l1]; rw [if_neg h, w64 (n := i + 1) (by omega) (by omega)]
theorem l47_l1_step {xs : List S55} {a b i j : Int} (k : Nat) (hs : Sm xs.length) (h : j > a) (ha : 0 ≤ a) (hj : j < xs.length) (hi : 0 ≤ i) (hi2 : i ≤ 1000000000000000000) :
    fact_Fact_47.l1 (k + 1) xs a b i j = (fact_Of_1.f k (rd_T55 xs j).f0.f0 (rd_T55 xs j).f0.f1 (rd_T55 xs j).f0.f2 (rd_T55 xs j).f0.f3 (rd_T55 xs j).f0.f4 (rd_T55 xs j).f1 (rd_T55 xs (j - 1)).f0.f0 (rd_T55 xs (j - 1)).f0.f1 (rd_T55 xs (j - 1)).f0.f2 (rd_T55 xs (j - 1)).f0.f3 (rd_T55 xs (j - 1)).f0.f4 (rd_T55 xs (j - 1)).f1).bind fun t => if t < 0 then fact_Fact_47.l1 k ((xs.set j.toNat (rd_T55 xs (j - 1))).set (j - 1).toNat (rd_T55 xs j)) a b i (j - 1) else fact_Fact_47.l0 k xs a b (i + 1) := by
  unfold Sm at hs
  simp only [fact_Fact_47.l1]
  rw [if_pos h, w64 (n := j - 1) (by omega) (by omega), w64 (n := i + 1) (by omega) (by omega), if_pos (by omega), if_pos hj, if_pos (by omega), if_pos (by omega)]
theorem ins_ev : ∀ (n : Nat) (A R P : List S55) (y : S55) (a b i j : Int), A.length = n → Sm (P ++ (A ++ y :: R)).length → a = P.length → j = P.length + A.length → 0 ≤ i → i ≤ 1000000000000000000 →
    ∃ A1 A2, A = A1 ++ A2 ∧ (∀ z ∈ A2, cmpS y z < 0) ∧ (A1 = [] ∨ ∃ A0 z, A1 = A0 ++ [z] ∧ ¬ cmpS y z < 0) ∧
      ∀ r, Ev (fun k => fact_Fact_47.l0 k (P ++ (A1 ++ y :: (A2 ++ R))) a b (i + 1)) r → Ev (fun k => fact_Fact_47.l1 k (P ++ (A ++ y :: R)) a b i j) r
  | 0, A, R, P, y, a, b, i, j, hn, hs, ha, hj, hi, hi2 => by
    obtain rfl := List.length_eq_zero_iff.1 hn
    refine ⟨[], [], rfl, by simp, .inl rfl, fun r h => Ev.step h fun k => ?_⟩
    show fact_Fact_47.l1 (k + 1) _ _ _ _ _ = _
    rw [l47_l1_end k (by simp at hj; omega) hi hi2]
    simp
  | n + 1, A, R, P, y, a, b, i, j, hn, hs, ha, hj, hi, hi2 => by
    obtain ⟨A', z, rfl⟩ : ∃ A' z, A = A' ++ [z] := ⟨A.dropLast, A.getLast (by intro e; simp [e] at hn), (List.dropLast_concat_getLast _).symm⟩
    have hn' : A'.length = n := by simpa using hn
    have hlen : (P ++ ((A' ++ [z]) ++ y :: R)).length = P.length + A'.length + R.length + 2 := by simp; omega
    have hj' : j = P.length + A'.length + 1 := by simp at hj; omega
    have e1 : P ++ ((A' ++ [z]) ++ y :: R) = (P ++ A') ++ (z :: ([] ++ y :: R)) := by simp
    have e2 : P ++ ((A' ++ [z]) ++ y :: R) = (P ++ (A' ++ [z])) ++ (y :: R) := by simp
    have r1 : rd_T55 (P ++ ((A' ++ [z]) ++ y :: R)) j = y := by rw [e2]; exact rd_app _ _ _ _ (by simp; omega)
    have r2 : rd_T55 (P ++ ((A' ++ [z]) ++ y :: R)) (j - 1) = z := by rw [e1]; exact rd_app _ _ _ _ (by simp; omega)
    have step := fun k => l47_l1_step (b := b) (i := i) (a := a) k hs (show j > a by omega) (by omega) (by rw [hlen]; omega) hi hi2
    simp only [r1, r2] at step
    by_cases hc : cmpS y z < 0
    · obtain ⟨A1, A2, e, h1, h2, h3⟩ := ins_ev n A' (z :: R) P y a b i (j - 1) hn' (by unfold Sm at hs ⊢; rw [hlen] at hs; simp; omega) ha (by omega) hi hi2
      refine ⟨A1, A2 ++ [z], by rw [e]; simp, ?_, h2, fun r h => ?_⟩
      · intro q hq
        rcases List.mem_append.1 hq with hq | hq
        · exact h1 q hq
        · obtain rfl := List.mem_singleton.1 hq; exact hc
      · refine Ev.step (Ev.bind (g := fun k t => if t < 0 then fact_Fact_47.l1 k (((P ++ ((A' ++ [z]) ++ y :: R)).set j.toNat z).set (j - 1).toNat y) a b i (j - 1) else fact_Fact_47.l0 k (P ++ ((A' ++ [z]) ++ y :: R)) a b (i + 1)) (of1_ev y z) ?_) step
        have e3 : ((P ++ ((A' ++ [z]) ++ y :: R)).set j.toNat z).set (j - 1).toNat y = P ++ (A' ++ y :: (z :: R)) := by
          rw [e1, swap_app' (P ++ A') [] R z y (j - 1) j (by simp; omega) (by simp; omega)]; simp
        simp only [if_pos hc, e3]
        refine h3 r (h.eq fun k => ?_)
        simp
    · refine ⟨A' ++ [z], [], by simp, by simp, .inr ⟨A', z, rfl, hc⟩, fun r h => ?_⟩
      refine Ev.step (Ev.bind (g := fun k t => if t < 0 then fact_Fact_47.l1 k (((P ++ ((A' ++ [z]) ++ y :: R)).set j.toNat z).set (j - 1).toNat y) a b i (j - 1) else fact_Fact_47.l0 k (P ++ ((A' ++ [z]) ++ y :: R)) a b (i + 1)) (of1_ev y z) ?_) step
      simp only [if_neg hc]
      exact h.eq fun k => by simp
theorem last_le {A0 : List S55} {z : S55} (h : Srt (A0 ++ [z])) : ∀ q ∈ A0 ++ [z], cmpS q z ≤ 0 := by
  intro q hq
  rcases List.mem_append.1 hq with hq | hq
  · exact h.across q hq z (by simp)
  · obtain rfl := List.mem_singleton.1 hq; exact Int.le_of_eq (cmpS_good.refl _)
theorem SS.insert {S0 A1 A2 : List S55} {y : S55} (h : SS S0 (A1 ++ A2)) (h1 : ∀ z ∈ A2, cmpS y z < 0) (h2 : A1 = [] ∨ ∃ A0 z, A1 = A0 ++ [z] ∧ ¬ cmpS y z < 0) : SS (S0 ++ [y]) (A1 ++ y :: A2) := by
  have hle : ∀ q ∈ A1, cmpS q y ≤ 0 := by
    rcases h2 with rfl | ⟨A0, z, rfl, hz⟩
    · simp
    · intro q hq
      exact cmpS_good.trans _ _ _ (last_le h.1.left q hq) (le_of_not_lt hz)
  refine ⟨h.1.left.app (List.pairwise_cons.2 ⟨fun z hz => by have := h1 z hz; omega, h.1.right⟩) ?_, fun x => ?_⟩
  · intro q hq z hz
    rcases List.mem_cons.1 hz with rfl | hz
    · exact hle q hq
    · exact h.1.across q hq z hz
  · have e := filter_cross (a := A2) (b := [y]) (fun z hz q hq => by obtain rfl := List.mem_singleton.1 hq; exact h1 z hz) x
    rw [show A1 ++ y :: A2 = A1 ++ ([y] ++ A2) by simp, List.filter_append, e, List.filter_append, ← List.append_assoc, ← List.filter_append, h.2 x, List.filter_append]
theorem l47_ev : ∀ (T S S0 P Q : List S55) (a b i : Int), SS S0 S → Sm (P ++ (S ++ (T ++ Q))).length → a = P.length → i = P.length + S.length → b = i + T.length →
    ∃ S', SS (S0 ++ T) S' ∧ S'.length = S.length + T.length ∧ Ev (fun k => fact_Fact_47.l0 k (P ++ (S ++ (T ++ Q))) a b i) (P ++ (S' ++ Q))
  | [], S, S0, P, Q, a, b, i, h, hs, ha, hi, hb => by
    refine ⟨S, by simpa using h, by simp, Ev.some fun k => ?_⟩
    simp only [fact_Fact_47.l0]
    rw [if_neg (by simp at hb; omega)]
    simp
  | y :: T, S, S0, P, Q, a, b, i, h, hs, ha, hi, hb => by
    have hs' : P.length + S.length + T.length + Q.length + 1 ≤ 1000000000000000000 := by unfold Sm at hs; simp at hs; omega
    obtain ⟨A1, A2, e, h1, h2, h3⟩ := ins_ev _ S (T ++ Q) P y a b i i rfl (by simpa using hs) ha hi (by omega) (by omega)
    have hl : S.length = A1.length + A2.length := by rw [e]; simp
    obtain ⟨S', g1, g2, g3⟩ := l47_ev T (A1 ++ y :: A2) (S0 ++ [y]) P Q a b (i + 1) (SS.insert (e ▸ h) h1 h2) (by unfold Sm; simp; omega) ha (by simp; omega) (by simp at hb; omega)
    refine ⟨S', by simpa using g1, by rw [g2]; simp; omega, ?_⟩
    refine Ev.step (g := fun k => fact_Fact_47.l1 k (P ++ (S ++ y :: (T ++ Q))) a b i i) (h3 _ (g3.eq fun k => by simp)) fun k => ?_
    show fact_Fact_47.l0 (k + 1) _ _ _ _ = _
    simp only [fact_Fact_47.l0]
    rw [if_pos (by simp at hb; omega)]
    simp
theorem f47_ev (T P Q : List S55) (a b : Int) (hs : Sm (P ++ (T ++ Q)).length) (ha : a = P.length) (hb : b = a + T.length) :
    ∃ S', SS T S' ∧ S'.length = T.length ∧ Ev (fun k => fact_Fact_47.f k (P ++ (T ++ Q)) a b) (P ++ (S' ++ Q)) := by
  have hs' : P.length + T.length + Q.length ≤ 1000000000000000000 := by unfold Sm at hs; simp at hs; omega
  unfold fact_Fact_47.f
  simp only [w64 (n := a + 1) (by omega) (by omega)]
  cases T with
  | nil =>
    refine ⟨[], SS.refl List.Pairwise.nil, rfl, Ev.some fun k => ?_⟩
    simp only [fact_Fact_47.l0]
    rw [if_neg (by simp at hb; omega)]
  | cons x T =>
    obtain ⟨S', g1, g2, g3⟩ := l47_ev T [x] [x] P Q a b (a + 1) (SS.refl (List.pairwise_singleton _ _)) (by simpa using hs) ha (by simp; omega) (by simp at hb; omega)
    exact ⟨S', by simpa using g1, by rw [g2]; simp; omega, g3.eq fun k => by simp⟩
theorem rd28_app (P R : List S28) (x : S28) (i : Int) (hi : i = P.length) : rd_T28 (P ++ x :: R) i = x := by
  subst hi; simp [rd_T28, List.getD_eq_getElem?_getD]
def toT (x : S28) : S55 := ⟨⟨x.f0.f0, x.f0.f1, x.f0.f2, x.f0.f3, x.f0.f4⟩, x.f1⟩
def toO (x : S55) : S28 := ⟨⟨x.f0.f0, x.f0.f1, x.f0.f2, x.f0.f3, x.f0.f4⟩, x.f1⟩
theorem theirs_ev : ∀ (R P : List S28) (acc : List S55), (P ++ R).length ≤ 1000000 → R.length + acc.length ≤ 1000000 → Ev (fun k => comptrollerlaw09_Theirs.l0 k acc (P ++ R) (P ++ R).length P.length) (acc ++ R.map toT)
  | [], P, acc, h, h2 => by
    refine Ev.some fun k => ?_
    simp only [comptrollerlaw09_Theirs.l0]
    rw [if_neg (by simp)]
    simp
  | x :: R, P, acc, h, h2 => by
    have ih := theirs_ev R (P ++ [x]) (acc ++ [toT x]) (by simp at h ⊢; omega) (by simp at h2 ⊢; omega)
    have hl : (P ++ x :: R).length = P.length + R.length + 1 := by simp; omega
    rw [hl] at h
    simp only [List.length_cons] at h2
    refine Ev.step (g := fun k => comptrollerlaw09_Theirs.l0 k (acc ++ [toT x]) (P ++ x :: R) (P ++ x :: R).length ((P ++ [x]).length : Nat)) (by simpa using ih) fun k => ?_
    show comptrollerlaw09_Theirs.l0 (k + 1) _ _ _ _ = _
    simp only [comptrollerlaw09_Theirs.l0]
    rw [hl, if_pos (by omega), if_pos (by omega), if_pos (by omega), if_pos (by omega), w64 (n := (P.length : Int) + 1) (by omega) (by omega), rd28_app P R x _ rfl, show ((P ++ [x]).length : Int) = (P.length : Int) + 1 by simp]
    rfl
theorem Theirs_ev (l : List S28) (h : l.length ≤ 1000000) : Ev (fun k => comptrollerlaw09_Theirs.f k l) (l.map toT) := by
  simpa [comptrollerlaw09_Theirs.f] using theirs_ev l [] [] (by simpa using h) (by simpa using h)
theorem ours_ev : ∀ (R P : List S55) (acc : List S28), (P ++ R).length ≤ 1000000 → R.length + acc.length ≤ 1000000 → Ev (fun k => comptrollerlaw09_Ours.l0 k acc (P ++ R) (P ++ R).length P.length) (acc ++ R.map toO)
  | [], P, acc, h, h2 => by
    refine Ev.some fun k => ?_
    simp only [comptrollerlaw09_Ours.l0]
    rw [if_neg (by simp)]
    simp
  | x :: R, P, acc, h, h2 => by
    have ih := ours_ev R (P ++ [x]) (acc ++ [toO x]) (by simp at h ⊢; omega) (by simp at h2 ⊢; omega)
    have hl : (P ++ x :: R).length = P.length + R.length + 1 := by simp; omega
    rw [hl] at h
    simp only [List.length_cons] at h2
    refine Ev.step (g := fun k => comptrollerlaw09_Ours.l0 k (acc ++ [toO x]) (P ++ x :: R) (P ++ x :: R).length ((P ++ [x]).length : Nat)) (by simpa using ih) fun k => ?_
    show comptrollerlaw09_Ours.l0 (k + 1) _ _ _ _ = _
    simp only [comptrollerlaw09_Ours.l0]
    rw [hl, if_pos (by omega), if_pos (by omega), if_pos (by omega), if_pos (by omega), w64 (n := (P.length : Int) + 1) (by omega) (by omega), rd_app P R x _ rfl, show ((P ++ [x]).length : Int) = (P.length : Int) + 1 by simp]
    rfl
theorem Ours_ev (l : List S55) (h : l.length ≤ 1000000) : Ev (fun k => comptrollerlaw09_Ours.f k l) (l.map toO) := by
  simpa [comptrollerlaw09_Ours.f] using ours_ev l [] [] (by simpa using h) (by simpa using h)
theorem same_ev : ∀ (R P : List S28), (P ++ R).length ≤ 1000000 → Ev (fun k => comptrollerref09_Same.l0 k (P ++ R) (P ++ R) P.length) true
  | [], P, h => by
    refine Ev.some fun k => ?_
    simp only [comptrollerref09_Same.l0]
    rw [if_neg (by simp)]
  | x :: R, P, h => by
    have ih := same_ev R (P ++ [x]) (by simp at h ⊢; omega)
    have hl : (P ++ x :: R).length = P.length + R.length + 1 := by simp; omega
    rw [hl] at h
    refine Ev.step (g := fun k => comptrollerref09_Same.l0 k (P ++ x :: R) (P ++ x :: R) ((P ++ [x]).length : Nat)) (by simpa using ih) fun k => ?_
    show comptrollerref09_Same.l0 (k + 1) _ _ _ = _
    simp only [comptrollerref09_Same.l0]
    rw [hl, if_pos (by omega), if_pos (by omega), if_pos (by omega), if_neg (by simp), w64 (n := (P.length : Int) + 1) (by omega) (by omega), show ((P ++ [x]).length : Int) = (P.length : Int) + 1 by simp]
theorem Same_ev (l : List S28) (h : l.length ≤ 1000000) : Ev (fun k => comptrollerref09_Same.f k l l) true := by
  simpa [comptrollerref09_Same.f] using same_ev l [] (by simpa using h)
theorem right_ev : ∀ (R P : List S55), (P ++ R).length ≤ 2000 → Rise (P ++ R) → (∀ y ∈ P ++ R, y.f1 ≠ 0) → Ev (fun k => fact_Right.l0 k (P ++ R) (P ++ R) (P ++ R).length P.length) true
  | [], P, h, hr, hn => by
    refine Ev.some fun k => ?_
    simp only [fact_Right.l0]
    rw [if_neg (by simp)]
    simp at h
    simp; omega
  | x :: R, P, h, hr, hn => by
    have ih := right_ev R (P ++ [x]) (by simp at h ⊢; omega) (by simpa using hr) (by simpa using hn)
    have hl : (P ++ x :: R).length = P.length + R.length + 1 := by simp; omega
    rw [hl] at h
    have hx : ¬ x.f1 = 0 := hn x (by simp)
    have rx := rd_app P R x (P.length : Int) rfl
    by_cases hp : P.length = 0
    · refine Ev.step (g := fun k => fact_Right.l0 k (P ++ x :: R) (P ++ x :: R) (P ++ x :: R).length ((P ++ [x]).length : Nat)) (by simpa using ih) fun k => ?_
      show fact_Right.l0 (k + 1) _ _ _ _ = _
      simp only [fact_Right.l0]
      rw [hl, if_pos (by omega), if_pos (by omega), if_pos (by omega), rx, if_neg hx, if_neg (by omega), w64 (n := (P.length : Int) + 1) (by omega) (by omega), show ((P ++ [x]).length : Int) = (P.length : Int) + 1 by simp]
    · obtain ⟨P', z, rfl⟩ : ∃ P' z, P = P' ++ [z] := ⟨P.dropLast, P.getLast (by intro e; simp [e] at hp), (List.dropLast_concat_getLast _).symm⟩
      have rz : rd_T55 ((P' ++ [z]) ++ x :: R) (((P' ++ [z]).length : Int) - 1) = z := by
        rw [show (P' ++ [z]) ++ x :: R = P' ++ z :: (x :: R) by simp]; exact rd_app _ _ _ _ (by simp)
      have hlt : cmpK z.f0 x.f0 < 0 := (List.pairwise_append.1 hr).2.2 z (by simp) x (by simp)
      refine Ev.step (Ev.bind (g := fun k t => if t ≥ 0 then some false else fact_Right.l0 k ((P' ++ [z]) ++ x :: R) ((P' ++ [z]) ++ x :: R) ((P' ++ [z]) ++ x :: R).length (((P' ++ [z]) ++ [x]).length : Nat)) (cmp_ev z.f0 x.f0) ?_) fun k => ?_
      · have : ¬ cmpK z.f0 x.f0 ≥ 0 := by omega
        simp only [if_neg this]
        simpa using ih
      · show fact_Right.l0 (k + 1) _ _ _ _ = _
        simp only [fact_Right.l0]
        rw [hl, if_pos (by omega), if_pos (by omega), if_pos (by omega), rx, if_neg hx, if_pos (by omega), w64 (n := ((P' ++ [z]).length : Int) - 1) (by omega) (by omega), if_pos (by omega), if_pos (by omega), rz, w64 (n := ((P' ++ [z]).length : Int) + 1) (by omega) (by omega), show (((P' ++ [z]) ++ [x]).length : Int) = ((P' ++ [z]).length : Int) + 1 by simp; omega]
theorem Right_ev (l : List S55) (h : l.length ≤ 2000) (hr : Rise l) (hn : ∀ y ∈ l, y.f1 ≠ 0) : Ev (fun k => fact_Right.f k l) true := by
  simpa [fact_Right.f] using right_ev l [] (by simpa using h) hr hn
end Go.Proofs.Ytdckeflggcefbaa.Y
