/- cent.Add on amounts whose sum fits: the sum, and no error. Plain Lean. Plain Lean functions with the answers of the program's functions, and proofs that the machine's calls come to them; lines written by a program for this claim. The reference's comparison of two texts. Sums that may not fit, and how two keys stand: the reference's answers and the program's are one. Plain Lean. Sums of keys, of entities and of all, and what a map of such sums reads as behind one fact more. Plain Lean. FactGets, walked: the sums of each key and of each entity are laid into two maps, and asked of the cube. The merge of two sorted stretches: sorted, facts of one key stand as they stood. Plain Lean. The merge of two sorted stretches, whole, and the stable sort. Plain Lean. slices.SortStableFunc at facts sorts, and facts of one key stand as they stood. Plain Lean. fact.Of's runs, of facts that are sorted: the cube. Plain Lean. fact.Of, of any facts: by rising keys each key's sum, or the error of the first that doesn't fit. Plain Lean. No conditions. -/
import Derived.Laws.Cover1
import Derived.Test.YtdckeflggcefbaaG1
import Derived.Test.YtdckeflggcefbaaG4
import Derived.Test.YtdckeflggcefbaaG8
import Derived.Test.YtdckeflggcefbaaG9
namespace Go.Proofs.Ytdckeflggcefbaa.Y
open Go.RowKit
set_option linter.unusedVariables false
theorem wrap_toInt (v : BitVec 64) : IntKind.i64.wrap (v.toNat : Int) = v.toInt := by
  rw [BitVec.toInt_eq_toNat_cond]
  have := v.isLt
  simp only [IntKind.wrap, IntKind.bits, IntKind.signed]
  simp
  split <;> split <;> omega
theorem msb_ofInt (x : Int) (h1 : -9223372036854775808 ≤ x) (h2 : x ≤ 9223372036854775807) : (BitVec.ofInt 64 x).msb = decide (x < 0) := by
  rw [BitVec.msb_eq_toInt, BitVec.toInt_ofInt]
  congr 1
  simp only [Int.bmod]
  apply propext
  constructor <;> intro h <;> split at * <;> omega
theorem bits_and_neg (x y : Int) (h1 : -9223372036854775808 ≤ x) (h2 : x ≤ 9223372036854775807) (h3 : -9223372036854775808 ≤ y) (h4 : y ≤ 9223372036854775807) : Go.bits .and .i64 x y < 0 ↔ x < 0 ∧ y < 0 := by
  have e : Go.bits .and .i64 x y = (BitVec.ofInt 64 x &&& BitVec.ofInt 64 y).toInt := wrap_toInt _
  have m : (BitVec.ofInt 64 x &&& BitVec.ofInt 64 y).msb = (decide (x < 0) && decide (y < 0)) := by rw [BitVec.msb_and, msb_ofInt x h1 h2, msb_ofInt y h3 h4]
  rw [BitVec.msb_eq_toInt] at m
  rw [e]
  constructor
  · intro h
    rw [decide_eq_true h] at m
    simpa using m.symm
  · rintro ⟨ha, hb⟩
    rw [decide_eq_true ha, decide_eq_true hb] at m
    simpa using m
theorem bits_xor_neg (x y : Int) (h1 : -9223372036854775808 ≤ x) (h2 : x ≤ 9223372036854775807) (h3 : -9223372036854775808 ≤ y) (h4 : y ≤ 9223372036854775807) : (Go.bits .xor .i64 x y < 0 ↔ ¬ (x < 0 ↔ y < 0)) ∧ -9223372036854775808 ≤ Go.bits .xor .i64 x y ∧ Go.bits .xor .i64 x y ≤ 9223372036854775807 := by
  have e : Go.bits .xor .i64 x y = (BitVec.ofInt 64 x ^^^ BitVec.ofInt 64 y).toInt := wrap_toInt _
  have m : (BitVec.ofInt 64 x ^^^ BitVec.ofInt 64 y).msb = (decide (x < 0) ^^ decide (y < 0)) := by rw [BitVec.msb_xor, msb_ofInt x h1 h2, msb_ofInt y h3 h4]
  rw [BitVec.msb_eq_toInt] at m
  rw [e]
  have b1 := BitVec.toInt_lt (x := BitVec.ofInt 64 x ^^^ BitVec.ofInt 64 y)
  have b2 := BitVec.le_toInt (x := BitVec.ofInt 64 x ^^^ BitVec.ofInt 64 y)
  refine ⟨?_, by simpa using b2, by have := b1; simp at this; omega⟩
  by_cases ha : x < 0 <;> by_cases hb : y < 0 <;> simp [ha, hb] at m <;> simp [ha, hb] <;> omega
/-- An amount that fits a machine's whole number. -/
def Fit (x : Int) : Prop := -9223372036854775808 ≤ x ∧ x ≤ 9223372036854775807
theorem cent_fits (a b : Int) (ha : Fit a) (hb : Fit b) (hs : Fit (a + b)) : cent_Add.f a b = some (a + b, 0) := by
  unfold Fit at ha hb hs
  have e : wrap64 (a + b) = a + b := w64 (by omega) (by omega)
  obtain ⟨x1, x2, x3⟩ := bits_xor_neg a (a + b) ha.1 ha.2 hs.1 hs.2
  obtain ⟨y1, y2, y3⟩ := bits_xor_neg b (a + b) hb.1 hb.2 hs.1 hs.2
  unfold cent_Add.f
  rw [e, if_neg]
  rw [bits_and_neg _ _ x2 x3 y2 y3, x1, y1]
  omega
end Go.Proofs.Ytdckeflggcefbaa.Y
namespace Go.Proofs.Ytdckeflggcefbaa.Y
open Go.RowKit Go.Proofs.YtdckeflggcefbaaW.PrintWords Go.Proofs.YtdckeflggcefbaaW.PrintLast Go.Proofs.YtdckeflggcefbaaW.PrintMore
attribute [local go_sem] max2_int min2_int max_two min_two max_three min_three max_four min_four
set_option linter.unusedVariables false
set_option linter.unusedSimpArgs false

/-! ### comptrollerref01_Add: function 42 -/
def comptrollerref01_Add.f (a0 : Int) (a1 : Int) : Option (Int × Int) := if a1 > 0 then (if a0 > (wrap64 (9223372036854775807 - a1)) then (some (0, 2)) else (if a1 < 0 then (if a0 < (wrap64 ((-9223372036854775808) - a1)) then (some (0, 2)) else (some (wrap64 (a0 + a1), 0))) else (some (wrap64 (a0 + a1), 0)))) else (if a1 < 0 then (if a0 < (wrap64 ((-9223372036854775808) - a1)) then (some (0, 2)) else (some (wrap64 (a0 + a1), 0))) else (some (wrap64 (a0 + a1), 0)))
set_option maxHeartbeats 8000000 in
set_option maxRecDepth 100000 in
theorem comptrollerref01_Add.calls (a0 : Int) (a1 : Int) (r1 : Int) (r2 : Int) (w : World) (h : comptrollerref01_Add.f a0 a1 = some (r1, r2)) :
  Calls Try.prog 42 #[.int .i64 a0, .int .i64 a1] w fun e w' => e = .returned (.tuple #[.int .i64 r1, .int .i64 r2]) ∧ Drawn0 w w' := by
 have H : (if a1 > 0 then (if a0 > (wrap64 (9223372036854775807 - a1)) then (some (0, 2)) else (if a1 < 0 then (if a0 < (wrap64 ((-9223372036854775808) - a1)) then (some (0, 2)) else (some (wrap64 (a0 + a1), 0))) else (some (wrap64 (a0 + a1), 0)))) else (if a1 < 0 then (if a0 < (wrap64 ((-9223372036854775808) - a1)) then (some (0, 2)) else (some (wrap64 (a0 + a1), 0))) else (some (wrap64 (a0 + a1), 0)))) = some (r1, r2) := h
 clear h
 by_cases c3 : a1 > 0
 ·rw [if_pos c3] at H
  have c3b0 : decide (0 < a1) = true := decide_eq_true c3
  clear c3
  by_cases c4 : a0 > (wrap64 (9223372036854775807 - a1))
  ·rw [if_pos c4] at H
   have c4b0 : decide ((wrap64 (9223372036854775807 - a1)) < a0) = true := decide_eq_true c4
   clear c4
   simp only [Option.some.injEq, Prod.mk.injEq] at H
   obtain ⟨rfl, rfl⟩ := H
   go_enter Try.func42, Try.ntmps42
   go_wp2
   go_ret2
   exact ⟨by first | rfl | (simp; done) | (simp [*]; done), by repeat (first | exact Drawn0.refl _ | apply Drawn0.step)⟩
  ·rw [if_neg c4] at H
   have c4b0 : decide ((wrap64 (9223372036854775807 - a1)) < a0) = false := decide_eq_false c4
   clear c4
   by_cases c5 : a1 < 0
   ·rw [if_pos c5] at H
    have c5b0 : decide (a1 < 0) = true := decide_eq_true c5
    clear c5
    by_cases c6 : a0 < (wrap64 ((-9223372036854775808) - a1))
    ·rw [if_pos c6] at H
     have c6b0 : decide (a0 < (wrap64 ((-9223372036854775808) - a1))) = true := decide_eq_true c6
     clear c6
     simp only [Option.some.injEq, Prod.mk.injEq] at H
     obtain ⟨rfl, rfl⟩ := H
     go_enter Try.func42, Try.ntmps42
     go_wp2
     go_ret2
     exact ⟨by first | rfl | (simp; done) | (simp [*]; done), by repeat (first | exact Drawn0.refl _ | apply Drawn0.step)⟩
    ·rw [if_neg c6] at H
     have c6b0 : decide (a0 < (wrap64 ((-9223372036854775808) - a1))) = false := decide_eq_false c6
     clear c6
     simp only [Option.some.injEq, Prod.mk.injEq] at H
     obtain ⟨rfl, rfl⟩ := H
     go_enter Try.func42, Try.ntmps42
     go_wp2
     go_ret2
     exact ⟨by first | rfl | (simp; done) | (simp [*]; done), by repeat (first | exact Drawn0.refl _ | apply Drawn0.step)⟩
   ·rw [if_neg c5] at H
    have c5b0 : decide (a1 < 0) = false := decide_eq_false c5
    clear c5
    simp only [Option.some.injEq, Prod.mk.injEq] at H
    obtain ⟨rfl, rfl⟩ := H
    go_enter Try.func42, Try.ntmps42
    go_wp2
    go_ret2
    exact ⟨by first | rfl | (simp; done) | (simp [*]; done), by repeat (first | exact Drawn0.refl _ | apply Drawn0.step)⟩
 ·rw [if_neg c3] at H
  have c3b0 : decide (0 < a1) = false := decide_eq_false c3
  clear c3
  by_cases c7 : a1 < 0
  ·rw [if_pos c7] at H
   have c7b0 : decide (a1 < 0) = true := decide_eq_true c7
   clear c7
   by_cases c8 : a0 < (wrap64 ((-9223372036854775808) - a1))
   ·rw [if_pos c8] at H
    have c8b0 : decide (a0 < (wrap64 ((-9223372036854775808) - a1))) = true := decide_eq_true c8
    clear c8
    simp only [Option.some.injEq, Prod.mk.injEq] at H
    obtain ⟨rfl, rfl⟩ := H
    go_enter Try.func42, Try.ntmps42
    go_wp2
    go_ret2
    exact ⟨by first | rfl | (simp; done) | (simp [*]; done), by repeat (first | exact Drawn0.refl _ | apply Drawn0.step)⟩
   ·rw [if_neg c8] at H
    have c8b0 : decide (a0 < (wrap64 ((-9223372036854775808) - a1))) = false := decide_eq_false c8
    clear c8
    simp only [Option.some.injEq, Prod.mk.injEq] at H
    obtain ⟨rfl, rfl⟩ := H
    go_enter Try.func42, Try.ntmps42
    go_wp2
    go_ret2
    exact ⟨by first | rfl | (simp; done) | (simp [*]; done), by repeat (first | exact Drawn0.refl _ | apply Drawn0.step)⟩
  ·rw [if_neg c7] at H
   have c7b0 : decide (a1 < 0) = false := decide_eq_false c7
   clear c7
   simp only [Option.some.injEq, Prod.mk.injEq] at H
   obtain ⟨rfl, rfl⟩ := H
   go_enter Try.func42, Try.ntmps42
   go_wp2
   go_ret2
   exact ⟨by first | rfl | (simp; done) | (simp [*]; done), by repeat (first | exact Drawn0.refl _ | apply Drawn0.step)⟩
/-! ### comptrollerref01_Sum: function 29 -/
def comptrollerref01_Sum.l0 : Nat → List Int → Int → Int → Option (Int × Int)
 | 0, _, _, _ => none
 | k + 1, x0, x4, x5 => if x5 < (x0.length : Int) then (if 0 ≤ x5 then ((comptrollerref01_Add.f x4 (rd x0 x5)).bind fun bt257 => (if bt257.2 = 0 then (comptrollerref01_Sum.l0 k x0 bt257.1 (wrap64 (x5 + 1))) else (some (0, bt257.2)))) else (none)) else (some (x4, 0))
def comptrollerref01_Sum.f (k : Nat) (l0 : List Int) : Option (Int × Int) := comptrollerref01_Sum.l0 k l0 0 0
theorem comptrollerref01_Sum.mono_l : ∀ k, (∀ y0 y1 y2, LeO (comptrollerref01_Sum.l0 k y0 y1 y2) (comptrollerref01_Sum.l0 (k + 1) y0 y1 y2))
 | 0 => fun _ _ _ r h => by simp [comptrollerref01_Sum.l0] at h
 | k + 1 => by
  have ih0 := comptrollerref01_Sum.mono_l k
  ·intro y0 y1 y2
   unfold comptrollerref01_Sum.l0
   with_reducible repeat' first | apply ih0 | refine LeO.refl _ | refine LeO.none _ | refine LeO.ite ?_ ?_ | refine LeO.bind ?_ (fun _ => ?_)
theorem comptrollerref01_Sum.mono : ∀ a0 k, LeO (comptrollerref01_Sum.f k a0) (comptrollerref01_Sum.f (k + 1) a0) := by
 intro a0 k
 have ih0 := comptrollerref01_Sum.mono_l k
 unfold comptrollerref01_Sum.f
 with_reducible repeat' first | apply ih0 | refine LeO.refl _ | refine LeO.none _ | refine LeO.ite ?_ ?_ | refine LeO.bind ?_ (fun _ => ?_)
set_option maxHeartbeats 8000000 in
set_option maxRecDepth 100000 in
theorem comptrollerref01_Sum.calls (k : Nat) (A0 : Option Addr) (c0 : Nat) (l0 : List Int) (r1 : Int) (r2 : Int) (w : World) (hr0 : Kd.C (Kd.int .i64) w A0 l0.length l0) (hc0 : l0.length ≤ c0) (h : comptrollerref01_Sum.f k l0 = some (r1, r2)) :
  Calls Try.prog 29 #[.slice A0 l0.length c0] w fun e w' => e = .returned (.tuple #[.int .i64 r1, .int .i64 r2]) ∧ Drawn0 w w' := by
 have HR0 := Aside0.mk hr0; have HC0 := Aside0.mk hc0; clear hr0 hc0
 have H : (comptrollerref01_Sum.l0 k l0 0 0) = some (r1, r2) := h
 clear h
 have H' := Aside0.mk H
 clear H
 go_enter Try.func29, Try.ntmps29
 go_wp2
 go_loopg [4, 5] k (fun kq v4 v5 w' => ∃ (x4_1 : Int) (x5_1 : Int), v4 = .int .i64 x4_1 ∧ v5 = .int .i64 x5_1 ∧ Aside0 (comptrollerref01_Sum.l0 kq l0 x4_1 x5_1 = some (r1, r2)) ∧ Aside0 (kq ≤ k) ∧ Drawn0 w w')
 case atStart => exact ⟨(0), (0), rs_, rs_, H', ⟨Nat.le_refl _⟩, by repeat (first | exact Drawn0.refl _ | apply Drawn0.step)⟩
 case round =>
  clear H'
  obtain ⟨x4_1, x5_1, rfl, rfl, HA, HK1, ⟨m1, rfl⟩⟩ := hrel
  cases gk with
  | zero => exact absurd HA.out (by simp [comptrollerref01_Sum.l0])
  | succ k1 =>
   have H := HA.out; clear HA
   simp only [comptrollerref01_Sum.l0] at H
   by_cases c2 : x5_1 < (l0.length : Int)
   ·rw [if_pos c2] at H
    have c2b0 : decide (x5_1 < (l0.length : Int)) = true := decide_eq_true c2
    clear c2
    by_cases c3 : 0 ≤ x5_1
    ·rw [if_pos c3] at H
     have c3b0 : decide (0 ≤ x5_1) = true := decide_eq_true c3
     clear c3
     replace H := Option.bind_eq_some_iff.mp H
     obtain ⟨⟨t257, t258⟩, A40, H⟩ := H
     replace H : (if t258 = 0 then (comptrollerref01_Sum.l0 k1 l0 t257 (wrap64 (x5_1 + 1))) else (some (0, t258))) = some (r1, r2) := H
     have A4 := Aside0.mk A40; clear A40
     by_cases c5 : t258 = 0
     ·rw [if_pos c5] at H
      have c5b0 : (t258 == 0) = true := beq_iff_eq.mpr c5
      have c5b1 : (t258 != 0) = false := bne_eq_false_iff_eq.mpr c5
      clear c5
      have H' := Aside0.mk H
      clear H
      have p256 : 0 ≤ (x5_1 : Int) := of_decide_eq_true as_
      have q256 : x5_1 < (l0.length : Int) := of_decide_eq_true as_
      obtain ⟨ad256, e256, hx256_0⟩ := Kd.at_int HR0.out x5_1 p256 q256
      cases e256; replace p256 := eq_true p256; replace q256 := eq_true q256
      go_wp2_with (first | ((with_reducible refine gate_callee (f := 42) rfl ?_); refine goesL_ (some 20) rfl rfl Try.func42 (by kernel_rfl) rfl #[.int .i64 x4_1, .int .i64 (rd l0 x5_1)] rfl mp_ ?_; (with_reducible refine (comptrollerref01_Add.calls x4_1 (rd l0 x5_1) t257 t258 _ A4.out).mono ?_); rintro e w' ⟨rfl, ⟨nd, rfl⟩⟩; refine ⟨_, rfl, ?_⟩))
      go_roundg k1
      case measure => have := HK1.out; omega
      case rel => exact ⟨(t257), (wrap64 (x5_1 + 1)), rs_, rs_, H', ⟨by have := HK1.out; omega⟩, by repeat (first | exact Drawn0.refl _ | apply Drawn0.step)⟩
     ·rw [if_neg c5] at H
      have c5b0 : (t258 == 0) = false := beq_eq_false_iff_ne.mpr c5
      have c5b1 : (t258 != 0) = true := bne_iff_ne.mpr c5
      simp only [Option.some.injEq, Prod.mk.injEq] at H
      obtain ⟨rfl, rfl⟩ := H
      have p256 : 0 ≤ (x5_1 : Int) := of_decide_eq_true as_
      have q256 : x5_1 < (l0.length : Int) := of_decide_eq_true as_
      obtain ⟨ad256, e256, hx256_0⟩ := Kd.at_int HR0.out x5_1 p256 q256
      cases e256; replace p256 := eq_true p256; replace q256 := eq_true q256
      go_wp2_with (first | ((with_reducible refine gate_callee (f := 42) rfl ?_); refine goesL_ (some 20) rfl rfl Try.func42 (by kernel_rfl) rfl #[.int .i64 x4_1, .int .i64 (rd l0 x5_1)] rfl mp_ ?_; (with_reducible refine (comptrollerref01_Add.calls x4_1 (rd l0 x5_1) t257 t258 _ A4.out).mono ?_); rintro e w' ⟨rfl, ⟨nd, rfl⟩⟩; refine ⟨_, rfl, ?_⟩))
      go_ret2
      exact ⟨by first | rfl | (simp; done) | (simp [*]; done), by repeat (first | exact Drawn0.refl _ | apply Drawn0.step)⟩
    ·rw [if_neg c3] at H
     exact absurd H (by simp)
   ·rw [if_neg c2] at H
    have c2b0 : decide (x5_1 < (l0.length : Int)) = false := decide_eq_false c2
    clear c2
    simp only [Option.some.injEq, Prod.mk.injEq] at H
    obtain ⟨rfl, rfl⟩ := H
    go_wp2
    go_ret2
    exact ⟨by first | rfl | (simp; done) | (simp [*]; done), by repeat (first | exact Drawn0.refl _ | apply Drawn0.step)⟩

end Go.Proofs.Ytdckeflggcefbaa.Y
namespace Go.Proofs.Ytdckeflggcefbaa.Y
open Go.RowKit Go.Proofs.YtdckeflggcefbaaW.PrintWords Go.Proofs.YtdckeflggcefbaaW.PrintLast Go.Proofs.YtdckeflggcefbaaW.PrintMore
set_option linter.unusedVariables false
set_option linter.unusedSimpArgs false
theorem bytesLess_turned : ∀ x y : List UInt8, Op.bytesLess y x = (!(Op.bytesLess x y || x == y))
  | [], [] => by simp [Op.bytesLess]
  | [], b :: y => by simp [Op.bytesLess]
  | a :: x, [] => by simp [Op.bytesLess]
  | a :: x, b :: y => by
    have ih := bytesLess_turned x y
    simp only [Op.bytesLess, ih]
    rcases Nat.lt_trichotomy a.toNat b.toNat with h | h | h
    · have h1 : a < b := h
      have h2 : ¬ b < a := fun h' => absurd (show b.toNat < a.toNat from h') (by omega)
      have h3 : b ≠ a := fun e => by rw [e] at h; omega
      have h4 : a ≠ b := fun e => h3 e.symm
      simp [h1, h2, h3, h4]
    · obtain rfl := UInt8.toNat_inj.1 h
      simp
    · have h1 : b < a := h
      have h2 : ¬ a < b := fun h' => absurd (show a.toNat < b.toNat from h') (by omega)
      have h3 : b ≠ a := fun e => by rw [e] at h; omega
      have h4 : a ≠ b := fun e => h3 e.symm
      simp [h1, h2, h3, h4]
def comptrollerref09_text.f (a0 : ByteArray) (a1 : ByteArray) : Option (Int) := if (Op.bytesLess a0.toList a1.toList) = true then (some (-1)) else (if (Op.bytesLess a1.toList a0.toList) = true then (some 1) else (some 0))
set_option maxHeartbeats 8000000 in
set_option maxRecDepth 100000 in
theorem comptrollerref09_text.calls (a0 : ByteArray) (a1 : ByteArray) (r : Int) (w : World) (h : comptrollerref09_text.f a0 a1 = some r) :
    Calls Try.prog 39 #[.string a0, .string a1] w fun e w' => e = .returned (.int .i64 r) ∧ Drawn0 w w' := by
  have H : (if (Op.bytesLess a0.toList a1.toList) = true then (some (-1)) else (if (Op.bytesLess a1.toList a0.toList) = true then (some 1) else (some 0))) = some r := h
  clear h
  by_cases c3 : (Op.bytesLess a0.toList a1.toList) = true
  · rw [if_pos c3] at H
    obtain rfl := Option.some.inj H
    go_enter Try.func39, Try.ntmps39
    go_wp2
    go_ret
    exact ⟨by first | rfl | (simp; done) | (simp [*]; done), by repeat (first | exact Drawn0.refl _ | apply Drawn0.step)⟩
  · rw [if_neg c3] at H
    have c3b0 : (Op.bytesLess a0.toList a1.toList) = false := by simpa using c3
    rw [bytesLess_turned, c3b0] at H
    clear c3
    by_cases c4 : (a0.toList == a1.toList) = true
    · rw [if_neg (by simpa using c4)] at H
      obtain rfl := Option.some.inj H
      go_enter Try.func39, Try.ntmps39
      go_wp2
      go_ret
      exact ⟨by first | rfl | (simp; done) | (simp [*]; done), by repeat (first | exact Drawn0.refl _ | apply Drawn0.step)⟩
    · have c4b0 : (a0.toList == a1.toList) = false := by simpa using c4
      rw [if_pos (by simpa using c4)] at H
      obtain rfl := Option.some.inj H
      go_enter Try.func39, Try.ntmps39
      go_wp2
      go_ret
      exact ⟨by first | rfl | (simp; done) | (simp [*]; done), by repeat (first | exact Drawn0.refl _ | apply Drawn0.step)⟩
end Go.Proofs.Ytdckeflggcefbaa.Y
namespace Go.Proofs.Ytdckeflggcefbaa.Y
open Go.RowKit Go.Proofs.YtdckeflggcefbaaW.PrintWords Go.Proofs.YtdckeflggcefbaaW.PrintLast Go.Proofs.YtdckeflggcefbaaW.PrintMore
attribute [local go_sem] max2_int min2_int max_two min_two max_three min_three max_four min_four
set_option linter.unusedVariables false
set_option linter.unusedSimpArgs false

/-! ### comptrollerref09_Cmp: function 24 -/
def comptrollerref09_Cmp.l0 : Nat → List Int → Int → ByteArray → ByteArray → ByteArray → ByteArray → Int → ByteArray → ByteArray → ByteArray → ByteArray → Int → Option (Int)
 | 0, _, _, _, _, _, _, _, _, _, _, _, _ => none
 | k + 1, x5, x6, x237000, x237001, x237002, x237003, x237004, x238000, x238001, x238002, x238003, x238004 => if x6 < 4 then (if 0 ≤ x6 then (if x6 < (x5.length : Int) then (if (rd x5 x6) = 0 then (comptrollerref09_Cmp.l0 k x5 (wrap64 (x6 + 1)) x237000 x237001 x237002 x237003 x237004 x238000 x238001 x238002 x238003 x238004) else (some (rd x5 x6))) else (none)) else (none)) else (if x237004 < x238004 then (some (-1)) else (if x237004 > x238004 then (some 1) else (some 0)))
def comptrollerref09_Cmp.f (k : Nat) (a0_0 : ByteArray) (a0_1 : ByteArray) (a0_2 : ByteArray) (a0_3 : ByteArray) (a0_4 : Int) (a1_0 : ByteArray) (a1_1 : ByteArray) (a1_2 : ByteArray) (a1_3 : ByteArray) (a1_4 : Int) : Option (Int) := (comptrollerref09_text.f a0_0 a1_0).bind fun t238 => ((comptrollerref09_text.f a0_1 a1_1).bind fun t239 => ((comptrollerref09_text.f a0_2 a1_2).bind fun t240 => ((comptrollerref09_text.f a0_3 a1_3).bind fun t241 => (comptrollerref09_Cmp.l0 k (([t238, t239, t240, t241] : List Int)) 0 a0_0 a0_1 a0_2 a0_3 a0_4 a1_0 a1_1 a1_2 a1_3 a1_4))))
theorem comptrollerref09_Cmp.mono_l : ∀ k, (∀ y0 y1 y2 y3 y4 y5 y6 y7 y8 y9 y10 y11, LeO (comptrollerref09_Cmp.l0 k y0 y1 y2 y3 y4 y5 y6 y7 y8 y9 y10 y11) (comptrollerref09_Cmp.l0 (k + 1) y0 y1 y2 y3 y4 y5 y6 y7 y8 y9 y10 y11))
 | 0 => fun _ _ _ _ _ _ _ _ _ _ _ _ r h => by simp [comptrollerref09_Cmp.l0] at h
 | k + 1 => by
  have ih0 := comptrollerref09_Cmp.mono_l k
  ·intro y0 y1 y2 y3 y4 y5 y6 y7 y8 y9 y10 y11
   unfold comptrollerref09_Cmp.l0
   with_reducible repeat' first | apply ih0 | refine LeO.refl _ | refine LeO.none _ | refine LeO.ite ?_ ?_ | refine LeO.bind ?_ (fun _ => ?_)
theorem comptrollerref09_Cmp.mono : ∀ a0 a1 a2 a3 a4 a5 a6 a7 a8 a9 k, LeO (comptrollerref09_Cmp.f k a0 a1 a2 a3 a4 a5 a6 a7 a8 a9) (comptrollerref09_Cmp.f (k + 1) a0 a1 a2 a3 a4 a5 a6 a7 a8 a9) := by
 intro a0 a1 a2 a3 a4 a5 a6 a7 a8 a9 k
 have ih0 := comptrollerref09_Cmp.mono_l k
 unfold comptrollerref09_Cmp.f
 with_reducible repeat' first | apply ih0 | refine LeO.refl _ | refine LeO.none _ | refine LeO.ite ?_ ?_ | refine LeO.bind ?_ (fun _ => ?_)
def comptrollerref09_Cmp.T1 : Bool × List (List Nat × List Nat) := (true, [([], []), ([0], [0]), ([], []), ([2], [2]), ([1, 3], [1, 3]), ([], []), ([5], [5]), ([], []), ([7], [7]), ([6, 8, 4], [6, 8]), ([], []), ([10], [10]), ([], []), ([12], [12]), ([11, 13, 9], [11, 13]), ([], []), ([15], [15]), ([], []), ([17], [17]), ([16, 18, 14], [16, 18]), ([4, 9, 14, 19], [4, 9, 14, 19]), ([20, 19, 0, 1, 2, 3, 4, 5, 6, 7, 8, 9, 10, 11, 12, 13, 14, 15, 16, 17, 18, 19, 20], [20])])
def comptrollerref09_Cmp.B1 : List Nat := [0, 1, 0, 4, 15, 0, 32, 0, 128, 511, 0, 1024, 0, 4096, 16383, 0, 32768, 0, 131072, 524287, 1048575, 2097151]
theorem comptrollerref09_Cmp.tab1 : rtab .any (opsOf Try.f24 1) = comptrollerref09_Cmp.T1 := by kernel_rfl
theorem comptrollerref09_Cmp.bits1 : waitsOk comptrollerref09_Cmp.T1.2 comptrollerref09_Cmp.B1 = true := by kernel_rfl
set_option maxHeartbeats 8000000 in
set_option maxRecDepth 100000 in
theorem comptrollerref09_Cmp.calls (k : Nat) (a0_0 : ByteArray) (a0_1 : ByteArray) (a0_2 : ByteArray) (a0_3 : ByteArray) (a0_4 : Int) (a1_0 : ByteArray) (a1_1 : ByteArray) (a1_2 : ByteArray) (a1_3 : ByteArray) (a1_4 : Int) (r : Int) (w : World) (h : comptrollerref09_Cmp.f k a0_0 a0_1 a0_2 a0_3 a0_4 a1_0 a1_1 a1_2 a1_3 a1_4 = some r) :
  Calls Try.prog 24 #[.agg #[.string a0_0, .string a0_1, .string a0_2, .string a0_3, .int .i64 a0_4], .agg #[.string a1_0, .string a1_1, .string a1_2, .string a1_3, .int .i64 a1_4]] w fun e w' => e = .returned (.int .i64 r) ∧ Below w.heap.size w w' := by
 have hu24 := Try.underlying24
 have HB := Aside0.mk (Below.refl w.heap.size w)
 have H : ((comptrollerref09_text.f a0_0 a1_0).bind fun t238 => ((comptrollerref09_text.f a0_1 a1_1).bind fun t239 => ((comptrollerref09_text.f a0_2 a1_2).bind fun t240 => ((comptrollerref09_text.f a0_3 a1_3).bind fun t241 => (comptrollerref09_Cmp.l0 k (([t238, t239, t240, t241] : List Int)) 0 a0_0 a0_1 a0_2 a0_3 a0_4 a1_0 a1_1 a1_2 a1_3 a1_4))))) = some r := h
 clear h
 replace H := Option.bind_eq_some_iff.mp H
 obtain ⟨t238, A30, H⟩ := H
 replace H : ((comptrollerref09_text.f a0_1 a1_1).bind fun t239 => ((comptrollerref09_text.f a0_2 a1_2).bind fun t240 => ((comptrollerref09_text.f a0_3 a1_3).bind fun t241 => (comptrollerref09_Cmp.l0 k (([t238, t239, t240, t241] : List Int)) 0 a0_0 a0_1 a0_2 a0_3 a0_4 a1_0 a1_1 a1_2 a1_3 a1_4)))) = some r := H
 have A3 := Aside0.mk A30; clear A30
 replace H := Option.bind_eq_some_iff.mp H
 obtain ⟨t239, A40, H⟩ := H
 replace H : ((comptrollerref09_text.f a0_2 a1_2).bind fun t240 => ((comptrollerref09_text.f a0_3 a1_3).bind fun t241 => (comptrollerref09_Cmp.l0 k (([t238, t239, t240, t241] : List Int)) 0 a0_0 a0_1 a0_2 a0_3 a0_4 a1_0 a1_1 a1_2 a1_3 a1_4))) = some r := H
 have A4 := Aside0.mk A40; clear A40
 replace H := Option.bind_eq_some_iff.mp H
 obtain ⟨t240, A50, H⟩ := H
 replace H : ((comptrollerref09_text.f a0_3 a1_3).bind fun t241 => (comptrollerref09_Cmp.l0 k (([t238, t239, t240, t241] : List Int)) 0 a0_0 a0_1 a0_2 a0_3 a0_4 a1_0 a1_1 a1_2 a1_3 a1_4)) = some r := H
 have A5 := Aside0.mk A50; clear A50
 replace H := Option.bind_eq_some_iff.mp H
 obtain ⟨t241, A60, H⟩ := H
 replace H : (comptrollerref09_Cmp.l0 k (([t238, t239, t240, t241] : List Int)) 0 a0_0 a0_1 a0_2 a0_3 a0_4 a1_0 a1_1 a1_2 a1_3 a1_4) = some r := H
 have A6 := Aside0.mk A60; clear A60
 obtain ⟨y242, hy242⟩ : ∃ y_ : List Int, y_ = (([t238, t239, t240, t241] : List Int)) := ⟨_, rfl⟩
 replace H : (comptrollerref09_Cmp.l0 k y242 0 a0_0 a0_1 a0_2 a0_3 a0_4 a1_0 a1_1 a1_2 a1_3 a1_4) = some r := rh hy242 H
 have Ny242 := Aside0.mk hy242; clear hy242
 have H' := Aside0.mk H
 clear H
 go_enter Try.func24, Try.ntmps24
 try go_wp2_with (first | ((with_reducible refine gate_dst (N := 2) rfl ?_); refine box_event ?hg (N := 2) ?hd (cs := #[.string a0_0, .string a0_1, .string a0_2, .string a0_3, .int .i64 a0_4]) (t := 24) ?hr ?_; (case hd => rfl); (case hg => rfl); (case hr => first | (go_simp; done) | (go_simp; rfl)); intro gb236 hg w7 hbox hb; have n0_ := Aside0.mk (below_step bw hb); have n1_ := Aside0.mk (hbox); have n2_ := Aside0.mk ((by rw [hg]; exact (below_size bw) : w.heap.size ≤ gb236)); have n3_ := Aside0.mk ((by rw [hg]; exact (below_size bw) : w.heap.size ≤ gb236)); clear HB; have HB := n0_; have BK236 := n1_; have GW236 := n2_; have GE236 := n3_; clear n0_ n1_ n2_ n3_; clear hb hbox hg) | ((with_reducible refine gate_dst (N := 3) rfl ?_); refine box_event ?hg (N := 3) ?hd (cs := #[.string a1_0, .string a1_1, .string a1_2, .string a1_3, .int .i64 a1_4]) (t := 24) ?hr ?_; (case hd => rfl); (case hg => rfl); (case hr => first | (go_simp; done) | (go_simp; rfl)); intro gb237 hg w8 hbox hb; have n0_ := Aside0.mk (blk_below (g := gb236) (o := .cells #[.string a0_0, .string a0_1, .string a0_2, .string a0_3, .int .i64 a0_4] 24 (0, 0)) (by (with_reducible repeat (first | refine blk_drewN ?_ _ | refine blk_drew ?_ | refine blk_alloc ?_ _)); exact BK236.out) hb); have n1_ := Aside0.mk (below_step bx hb); have n2_ := Aside0.mk (hbox); have n3_ := Aside0.mk ((by rw [hg]; exact (below_size bx) : w.heap.size ≤ gb237)); have n4_ := Aside0.mk ((by rw [hg]; exact (below_size bx) : w.heap.size ≤ gb237)); have n5_ := Aside0.mk ((by rw [hg]; exact Nat.ne_of_lt (blk_lt (g := gb236) (o := .cells #[.string a0_0, .string a0_1, .string a0_2, .string a0_3, .int .i64 a0_4] 24 (0, 0)) (by (with_reducible repeat (first | refine blk_drewN ?_ _ | refine blk_drew ?_ | refine blk_alloc ?_ _)); exact BK236.out)) : gb236 ≠ gb237)); have n6_ := Aside0.mk ((by rw [hg]; exact Nat.ne_of_gt (blk_lt (g := gb236) (o := .cells #[.string a0_0, .string a0_1, .string a0_2, .string a0_3, .int .i64 a0_4] 24 (0, 0)) (by (with_reducible repeat (first | refine blk_drewN ?_ _ | refine blk_drew ?_ | refine blk_alloc ?_ _)); exact BK236.out)) : gb237 ≠ gb236)); clear BK236; clear HB; have BK236 := n0_; have HB := n1_; have BK237 := n2_; have GW237 := n3_; have GE237 := n4_; have NB236_237 := n5_; have NB237_236 := n6_; clear n0_ n1_ n2_ n3_ n4_ n5_ n6_; clear hb hbox hg))
 have n0_ := Aside0.mk (blk_drew BK236.out)
 have n1_ := Aside0.mk (blk_drew BK237.out)
 have n2_ := Aside0.mk (below_drew1 HB.out)
 clear BK236 BK237 HB; have BK236 := n0_; have BK237 := n1_; have HB := n2_; clear n0_ n1_ n2_
 refine start_ (n := 22) (S := fun w' => w'.cell? ⟨gb236, 0, none⟩ = some (.string a0_0) ∧ w'.cell? ⟨gb236, 1, none⟩ = some (.string a0_1) ∧ w'.cell? ⟨gb236, 2, none⟩ = some (.string a0_2) ∧ w'.cell? ⟨gb236, 3, none⟩ = some (.string a0_3) ∧ w'.cell? ⟨gb236, 4, none⟩ = some (.int .i64 a0_4) ∧ w'.cell? ⟨gb237, 0, none⟩ = some (.string a1_0) ∧ w'.cell? ⟨gb237, 1, none⟩ = some (.string a1_1) ∧ w'.cell? ⟨gb237, 2, none⟩ = some (.string a1_2) ∧ w'.cell? ⟨gb237, 3, none⟩ = some (.string a1_3) ∧ w'.cell? ⟨gb237, 4, none⟩ = some (.int .i64 a1_4)) (ds := []) (fl 22 0) (by kernel_rfl) rfl rfl ⟨(blk_cell BK236.out 0).trans rfl, (blk_cell BK236.out 1).trans rfl, (blk_cell BK236.out 2).trans rfl, (blk_cell BK236.out 3).trans rfl, (blk_cell BK236.out 4).trans rfl, (blk_cell BK237.out 0).trans rfl, (blk_cell BK237.out 1).trans rfl, (blk_cell BK237.out 2).trans rfl, (blk_cell BK237.out 3).trans rfl, (blk_cell BK237.out 4).trans rfl⟩ (fun hHeld => ?_); refine with_tabW comptrollerref09_Cmp.tab1 comptrollerref09_Cmp.bits1 (fun HT_ HW_ => ?_)
 generalize w8.drew = w9 at BK236 BK237 HB hHeld ⊢
 refine pu 0 (some 7) (fl 22 1) HT_ ?_
 refine pu 2 (some 9) (fl 22 5) HT_ ?_
 refine pu 5 (some 12) (fl 22 37) HT_ ?_
 refine pu 7 (some 14) (fl 22 165) HT_ ?_
 refine pu 10 (some 17) (fl 22 1189) HT_ ?_
 refine pu 12 (some 19) (fl 22 5285) HT_ ?_
 refine pu 15 (some 22) (fl 22 38053) HT_ ?_
 refine pu 17 (some 24) (fl 22 169125) HT_ ?_
 refine tu 1 (some 8) (fl 22 169127) HT_ HW_ hHeld ?_
 refine tu 3 (some 10) (fl 22 169135) HT_ HW_ hHeld ?_
 refine tu 6 (some 13) (fl 22 169199) HT_ HW_ hHeld ?_
 refine tu 8 (some 15) (fl 22 169455) HT_ HW_ hHeld ?_
 refine tu 11 (some 18) (fl 22 171503) HT_ HW_ hHeld ?_
 refine tu 13 (some 20) (fl 22 179695) HT_ HW_ hHeld ?_
 refine tu 16 (some 23) (fl 22 245231) HT_ HW_ hHeld ?_
 refine tu 18 (some 25) (fl 22 507375) HT_ HW_ hHeld ?_
 refine one_ (i := 4) (N := some 11) (fl 22 507391) rfl rfl (one_of HT_.out (by kernel_rfl)) (by decide) (fun K hK => ?_)
 refine goes_ Try.func39 (by kernel_rfl) rfl #[.string a0_0, .string a1_0] (by rfl) rfl rfl mp_ ?_
 with_reducible refine (comptrollerref09_text.calls a0_0 a1_0 t238 _ A3.out).mono ?_
 rintro e w' ⟨rfl, ⟨nd, rfl⟩⟩
 refine ⟨_, rfl, ?_⟩
 refine hK.out _ _ ⟨(blk_cell BK236.out 0).trans rfl, (blk_cell BK236.out 1).trans rfl, (blk_cell BK236.out 2).trans rfl, (blk_cell BK236.out 3).trans rfl, (blk_cell BK236.out 4).trans rfl, (blk_cell BK237.out 0).trans rfl, (blk_cell BK237.out 1).trans rfl, (blk_cell BK237.out 2).trans rfl, (blk_cell BK237.out 3).trans rfl, (blk_cell BK237.out 4).trans rfl⟩ (fun hHeld => ?_)
 clear hK K
 refine norm_ (a' := ?_) ?_ ?_
 rotate_left
 ·show Act.put _ (some 11) _ = _
  simp only [Act.put, List.setIfInBounds_toArray, List.set_cons_zero, List.set_cons_succ, i64_w, i32_w]
  rfl
 refine one_ (i := 9) (N := some 16) (fl 22 507903) rfl rfl (one_of HT_.out (by kernel_rfl)) (by decide) (fun K hK => ?_)
 refine goes_ Try.func39 (by kernel_rfl) rfl #[.string a0_1, .string a1_1] (by rfl) rfl rfl mp_ ?_
 with_reducible refine (comptrollerref09_text.calls a0_1 a1_1 t239 _ A4.out).mono ?_
 rintro e w' ⟨rfl, ⟨nd, rfl⟩⟩
 refine ⟨_, rfl, ?_⟩
 refine hK.out _ _ ⟨(blk_cell BK236.out 0).trans rfl, (blk_cell BK236.out 1).trans rfl, (blk_cell BK236.out 2).trans rfl, (blk_cell BK236.out 3).trans rfl, (blk_cell BK236.out 4).trans rfl, (blk_cell BK237.out 0).trans rfl, (blk_cell BK237.out 1).trans rfl, (blk_cell BK237.out 2).trans rfl, (blk_cell BK237.out 3).trans rfl, (blk_cell BK237.out 4).trans rfl⟩ (fun hHeld => ?_)
 clear hK K
 refine norm_ (a' := ?_) ?_ ?_
 rotate_left
 ·show Act.put _ (some 16) _ = _
  simp only [Act.put, List.setIfInBounds_toArray, List.set_cons_zero, List.set_cons_succ, i64_w, i32_w]
  rfl
 refine one_ (i := 14) (N := some 21) (fl 22 524287) rfl rfl (one_of HT_.out (by kernel_rfl)) (by decide) (fun K hK => ?_)
 refine goes_ Try.func39 (by kernel_rfl) rfl #[.string a0_2, .string a1_2] (by rfl) rfl rfl mp_ ?_
 with_reducible refine (comptrollerref09_text.calls a0_2 a1_2 t240 _ A5.out).mono ?_
 rintro e w' ⟨rfl, ⟨nd, rfl⟩⟩
 refine ⟨_, rfl, ?_⟩
 refine hK.out _ _ ⟨(blk_cell BK236.out 0).trans rfl, (blk_cell BK236.out 1).trans rfl, (blk_cell BK236.out 2).trans rfl, (blk_cell BK236.out 3).trans rfl, (blk_cell BK236.out 4).trans rfl, (blk_cell BK237.out 0).trans rfl, (blk_cell BK237.out 1).trans rfl, (blk_cell BK237.out 2).trans rfl, (blk_cell BK237.out 3).trans rfl, (blk_cell BK237.out 4).trans rfl⟩ (fun hHeld => ?_)
 clear hK K
 refine norm_ (a' := ?_) ?_ ?_
 rotate_left
 ·show Act.put _ (some 21) _ = _
  simp only [Act.put, List.setIfInBounds_toArray, List.set_cons_zero, List.set_cons_succ, i64_w, i32_w]
  rfl
 refine one_ (i := 19) (N := some 26) (fl 22 1048575) rfl rfl (one_of HT_.out (by kernel_rfl)) (by decide) (fun K hK => ?_)
 refine goes_ Try.func39 (by kernel_rfl) rfl #[.string a0_3, .string a1_3] (by rfl) rfl rfl mp_ ?_
 with_reducible refine (comptrollerref09_text.calls a0_3 a1_3 t241 _ A6.out).mono ?_
 rintro e w' ⟨rfl, ⟨nd, rfl⟩⟩
 refine ⟨_, rfl, ?_⟩
 refine hK.out _ _ ⟨(blk_cell BK236.out 0).trans rfl, (blk_cell BK236.out 1).trans rfl, (blk_cell BK236.out 2).trans rfl, (blk_cell BK236.out 3).trans rfl, (blk_cell BK236.out 4).trans rfl, (blk_cell BK237.out 0).trans rfl, (blk_cell BK237.out 1).trans rfl, (blk_cell BK237.out 2).trans rfl, (blk_cell BK237.out 3).trans rfl, (blk_cell BK237.out 4).trans rfl⟩ (fun hHeld => ?_)
 clear hK K
 refine norm_ (a' := ?_) ?_ ?_
 rotate_left
 ·show Act.put _ (some 26) _ = _
  simp only [Act.put, List.setIfInBounds_toArray, List.set_cons_zero, List.set_cons_succ, i64_w, i32_w]
  rfl
 refine one_ (i := 20) (N := some 27) (fl 22 2097151) rfl rfl (one_of HT_.out (by kernel_rfl)) (by decide) (fun K hK => ?_)
 refine Kd.R_lit_step (Kd.int .i64) _ 3 ?hg (N := 27) ?hd (xs := ([t238, t239, t240, t241] : List Int)) (inner := [.int .i64 t238, .int .i64 t239, .int .i64 t240, .int .i64 t241]) (ok := fun _ => True) (okp := fun _ => True) ?hr ?hp (fun _ hk => hk) trivial (Below.refl _ _) (Nat.le_refl _) (by simp) ?_; (case hd => rfl); (case hg => rfl); (case hr => first | (go_simp; done) | (go_simp; rfl)); (case hp => exact (Reps.one (show Kd.M (Kd.int .i64) _ _ _ t238 [.int .i64 t238] from rfl) (Reps.one (show Kd.M (Kd.int .i64) _ _ _ t239 [.int .i64 t239] from rfl) (Reps.one (show Kd.M (Kd.int .i64) _ _ _ t240 [.int .i64 t240] from rfl) (Reps.one (show Kd.M (Kd.int .i64) _ _ _ t241 [.int .i64 t241] from rfl) (Reps.none _ _))))))
 intro v243 w10 ho11 hb hg_ hnew_
 clear hg_ hnew_
 (first | rw [← Ny242.out] at ho11 | (simp only [Int.reduceToNat] at ho11; rw [← Ny242.out] at ho11))
 have n0_ := Aside0.mk (Kd.R_lower ho11 (below_size bx))
 have n1_ := Aside0.mk (blk_below (g := gb236) (o := .cells #[.string a0_0, .string a0_1, .string a0_2, .string a0_3, .int .i64 a0_4] 24 (0, 0)) (by (with_reducible repeat (first | refine blk_drewN ?_ _ | refine blk_drew ?_ | refine blk_alloc ?_ _)); exact BK236.out) hb)
 have n2_ := Aside0.mk (blk_below (g := gb237) (o := .cells #[.string a1_0, .string a1_1, .string a1_2, .string a1_3, .int .i64 a1_4] 24 (0, 0)) (by (with_reducible repeat (first | refine blk_drewN ?_ _ | refine blk_drew ?_ | refine blk_alloc ?_ _)); exact BK237.out) hb)
 have n3_ := Aside0.mk (below_step bx hb)
 clear BK236 BK237 HB; have HO244 := n0_; have BK236 := n1_; have BK237 := n2_; have HB := n3_; clear n0_ n1_ n2_ n3_ hb ho11
 refine hK.out _ _ ⟨(blk_cell BK236.out 0).trans rfl, (blk_cell BK236.out 1).trans rfl, (blk_cell BK236.out 2).trans rfl, (blk_cell BK236.out 3).trans rfl, (blk_cell BK236.out 4).trans rfl, (blk_cell BK237.out 0).trans rfl, (blk_cell BK237.out 1).trans rfl, (blk_cell BK237.out 2).trans rfl, (blk_cell BK237.out 3).trans rfl, (blk_cell BK237.out 4).trans rfl⟩ (fun hHeld => ?_)
 clear hK K
 refine norm_ (a' := ?_) ?_ ?_
 rotate_left
 ·show Act.put _ (some 27) _ = _
  simp only [Act.put, List.setIfInBounds_toArray, List.set_cons_zero, List.set_cons_succ, i64_w, i32_w]
  rfl
 refine pu 21 (some 5) (fl 22 4194303) HT_ ?_
 refine done_ (done_of HT_.out (by kernel_rfl)) ?_
 try go_wp2
 go_loopg [6] k (fun kq v6 w' => ∃ (x6_1 : Int), v6 = .int .i64 x6_1 ∧ Aside0 (comptrollerref09_Cmp.l0 kq y242 x6_1 a0_0 a0_1 a0_2 a0_3 a0_4 a1_0 a1_1 a1_2 a1_3 a1_4 = some r) ∧ Aside0 (kq ≤ k) ∧ Aside0 (Kd.R (Kd.int .i64) 3 w' w.heap.size (fun _ => True) v243 y242) ∧ Aside0 (w'.heap[gb236]? = some (.cells #[.string a0_0, .string a0_1, .string a0_2, .string a0_3, .int .i64 a0_4] 24 (0, 0))) ∧ Aside0 (w'.heap[gb237]? = some (.cells #[.string a1_0, .string a1_1, .string a1_2, .string a1_3, .int .i64 a1_4] 24 (0, 0))) ∧ Aside0 (Below w.heap.size w w'))
 case atStart => exact ⟨(0), rs_, H', ⟨Nat.le_refl _⟩, ⟨kr HO244⟩, ⟨by (with_reducible repeat (first | refine blk_drewN ?_ _ | refine blk_drew ?_ | refine blk_alloc ?_ _)); exact BK236.out⟩, ⟨by (with_reducible repeat (first | refine blk_drewN ?_ _ | refine blk_drew ?_ | refine blk_alloc ?_ _)); exact BK237.out⟩, ⟨bx⟩⟩
 case round =>
  clear H'
  (try clear c2); (try clear p2); (try clear c3)
  obtain ⟨x6_1, rfl, HA, HK1, HO_5, BK236, BK237, HB⟩ := hrel
  cases gk with
  | zero => exact absurd HA.out (by simp [comptrollerref09_Cmp.l0])
  | succ k1 =>
   have H := HA.out; clear HA
   simp only [comptrollerref09_Cmp.l0] at H
   by_cases c12 : x6_1 < 4
   ·rw [if_pos c12] at H
    have c12b0 : decide (x6_1 < 4) = true := decide_eq_true c12
    clear c12
    by_cases c13 : 0 ≤ x6_1
    ·rw [if_pos c13] at H
     have c13b0 : decide (0 ≤ x6_1) = true := decide_eq_true c13
     clear c13
     by_cases c14 : x6_1 < (y242.length : Int)
     ·rw [if_pos c14] at H
      have c14b0 : decide (x6_1 < (y242.length : Int)) = true := decide_eq_true c14
      clear c14
      by_cases c15 : (rd y242 x6_1) = 0
      ·rw [if_pos c15] at H
       have c15b0 : ((rd y242 x6_1) == 0) = true := beq_iff_eq.mpr c15
       have c15b1 : ((rd y242 x6_1) != 0) = false := bne_eq_false_iff_eq.mpr c15
       clear c15
       have H' := Aside0.mk H
       clear H
       obtain ⟨Ao16, co16, eo16⟩ := Kd.R_slice HO_5.out
       subst eo16
       have p245 : 0 ≤ (x6_1 : Int) := of_decide_eq_true as_
       have q245 : x6_1 < (y242.length : Int) := of_decide_eq_true as_
       obtain ⟨ad245, e245, hx245_0⟩ := Kd.at_int (Kd.R_reads' HO_5.out).2.2 x6_1 p245 q245
       cases e245; replace p245 := eq_true p245; replace q245 := eq_true q245; go_wp2
       go_roundg k1
       case measure => have := HK1.out; omega
       case rel => exact ⟨(wrap64 (x6_1 + 1)), rs_, H', ⟨by have := HK1.out; omega⟩, ⟨kr HO_5⟩, ⟨by (with_reducible repeat (first | refine blk_drewN ?_ _ | refine blk_drew ?_ | refine blk_alloc ?_ _)); exact BK236.out⟩, ⟨by (with_reducible repeat (first | refine blk_drewN ?_ _ | refine blk_drew ?_ | refine blk_alloc ?_ _)); exact BK237.out⟩, ⟨bx⟩⟩
      ·rw [if_neg c15] at H
       have c15b0 : ((rd y242 x6_1) == 0) = false := beq_eq_false_iff_ne.mpr c15
       have c15b1 : ((rd y242 x6_1) != 0) = true := bne_iff_ne.mpr c15
       obtain rfl := Option.some.inj H
       obtain ⟨Ao17, co17, eo17⟩ := Kd.R_slice HO_5.out
       subst eo17
       have p245 : 0 ≤ (x6_1 : Int) := of_decide_eq_true as_
       have q245 : x6_1 < (y242.length : Int) := of_decide_eq_true as_
       obtain ⟨ad245, e245, hx245_0⟩ := Kd.at_int (Kd.R_reads' HO_5.out).2.2 x6_1 p245 q245
       cases e245; replace p245 := eq_true p245; replace q245 := eq_true q245
       have p246 : 0 ≤ (x6_1 : Int) := of_decide_eq_true as_
       have q246 : x6_1 < (y242.length : Int) := of_decide_eq_true as_
       obtain ⟨ad246, e246, hx246_0⟩ := Kd.at_int (Kd.R_reads' HO_5.out).2.2 x6_1 p246 q246
       obtain rfl : ad245 = ad246 := (by injection e246)
       replace p246 := eq_true p246; replace q246 := eq_true q246; go_wp2; go_ret
       exact ⟨re_, bx⟩
     ·rw [if_neg c14] at H
      exact absurd H (by simp)
    ·rw [if_neg c13] at H
     exact absurd H (by simp)
   ·rw [if_neg c12] at H
    have c12b0 : decide (x6_1 < 4) = false := decide_eq_false c12
    clear c12
    by_cases c18 : a0_4 < a1_4
    ·rw [if_pos c18] at H
     have c18b0 : decide (a0_4 < a1_4) = true := decide_eq_true c18
     clear c18
     obtain rfl := Option.some.inj H
     have hnb19 := NB236_237.out; have hnc19 := NB237_236.out
     have hcz20_0 : wr.cell? ⟨gb236, 0, none⟩ = some (.string a0_0) := (blk_cell BK236.out 0).trans rfl
     have hcz20_1 : wr.cell? ⟨gb236, 1, none⟩ = some (.string a0_1) := (blk_cell BK236.out 1).trans rfl
     have hcz20_2 : wr.cell? ⟨gb236, 2, none⟩ = some (.string a0_2) := (blk_cell BK236.out 2).trans rfl
     have hcz20_3 : wr.cell? ⟨gb236, 3, none⟩ = some (.string a0_3) := (blk_cell BK236.out 3).trans rfl
     have hcz20_4 : wr.cell? ⟨gb236, 4, none⟩ = some (.int .i64 a0_4) := (blk_cell BK236.out 4).trans rfl
     have hfz20_0 := blk_frozen BK236.out 0
     have hfz20_1 := blk_frozen BK236.out 1
     have hfz20_2 := blk_frozen BK236.out 2
     have hfz20_3 := blk_frozen BK236.out 3
     have hfz20_4 := blk_frozen BK236.out 4
     have hcz21_0 : wr.cell? ⟨gb237, 0, none⟩ = some (.string a1_0) := (blk_cell BK237.out 0).trans rfl
     have hcz21_1 : wr.cell? ⟨gb237, 1, none⟩ = some (.string a1_1) := (blk_cell BK237.out 1).trans rfl
     have hcz21_2 : wr.cell? ⟨gb237, 2, none⟩ = some (.string a1_2) := (blk_cell BK237.out 2).trans rfl
     have hcz21_3 : wr.cell? ⟨gb237, 3, none⟩ = some (.string a1_3) := (blk_cell BK237.out 3).trans rfl
     have hcz21_4 : wr.cell? ⟨gb237, 4, none⟩ = some (.int .i64 a1_4) := (blk_cell BK237.out 4).trans rfl
     have hfz21_0 := blk_frozen BK237.out 0
     have hfz21_1 := blk_frozen BK237.out 1
     have hfz21_2 := blk_frozen BK237.out 2
     have hfz21_3 := blk_frozen BK237.out 3
     have hfz21_4 := blk_frozen BK237.out 4
     go_wp2; go_ret
     exact ⟨re_, bx⟩
    ·rw [if_neg c18] at H
     have c18b0 : decide (a0_4 < a1_4) = false := decide_eq_false c18
     clear c18
     by_cases c22 : a0_4 > a1_4
     ·rw [if_pos c22] at H
      have c22b0 : decide (a1_4 < a0_4) = true := decide_eq_true c22
      clear c22
      obtain rfl := Option.some.inj H
      have hnb23 := NB236_237.out; have hnc23 := NB237_236.out
      have hcz24_0 : wr.cell? ⟨gb236, 0, none⟩ = some (.string a0_0) := (blk_cell BK236.out 0).trans rfl
      have hcz24_1 : wr.cell? ⟨gb236, 1, none⟩ = some (.string a0_1) := (blk_cell BK236.out 1).trans rfl
      have hcz24_2 : wr.cell? ⟨gb236, 2, none⟩ = some (.string a0_2) := (blk_cell BK236.out 2).trans rfl
      have hcz24_3 : wr.cell? ⟨gb236, 3, none⟩ = some (.string a0_3) := (blk_cell BK236.out 3).trans rfl
      have hcz24_4 : wr.cell? ⟨gb236, 4, none⟩ = some (.int .i64 a0_4) := (blk_cell BK236.out 4).trans rfl
      have hfz24_0 := blk_frozen BK236.out 0
      have hfz24_1 := blk_frozen BK236.out 1
      have hfz24_2 := blk_frozen BK236.out 2
      have hfz24_3 := blk_frozen BK236.out 3
      have hfz24_4 := blk_frozen BK236.out 4
      have hcz25_0 : wr.cell? ⟨gb237, 0, none⟩ = some (.string a1_0) := (blk_cell BK237.out 0).trans rfl
      have hcz25_1 : wr.cell? ⟨gb237, 1, none⟩ = some (.string a1_1) := (blk_cell BK237.out 1).trans rfl
      have hcz25_2 : wr.cell? ⟨gb237, 2, none⟩ = some (.string a1_2) := (blk_cell BK237.out 2).trans rfl
      have hcz25_3 : wr.cell? ⟨gb237, 3, none⟩ = some (.string a1_3) := (blk_cell BK237.out 3).trans rfl
      have hcz25_4 : wr.cell? ⟨gb237, 4, none⟩ = some (.int .i64 a1_4) := (blk_cell BK237.out 4).trans rfl
      have hfz25_0 := blk_frozen BK237.out 0
      have hfz25_1 := blk_frozen BK237.out 1
      have hfz25_2 := blk_frozen BK237.out 2
      have hfz25_3 := blk_frozen BK237.out 3
      have hfz25_4 := blk_frozen BK237.out 4
      go_wp2; go_ret
      exact ⟨re_, bx⟩
     ·rw [if_neg c22] at H
      have c22b0 : decide (a1_4 < a0_4) = false := decide_eq_false c22
      clear c22
      obtain rfl := Option.some.inj H
      have hnb26 := NB236_237.out; have hnc26 := NB237_236.out
      have hcz27_0 : wr.cell? ⟨gb236, 0, none⟩ = some (.string a0_0) := (blk_cell BK236.out 0).trans rfl
      have hcz27_1 : wr.cell? ⟨gb236, 1, none⟩ = some (.string a0_1) := (blk_cell BK236.out 1).trans rfl
      have hcz27_2 : wr.cell? ⟨gb236, 2, none⟩ = some (.string a0_2) := (blk_cell BK236.out 2).trans rfl
      have hcz27_3 : wr.cell? ⟨gb236, 3, none⟩ = some (.string a0_3) := (blk_cell BK236.out 3).trans rfl
      have hcz27_4 : wr.cell? ⟨gb236, 4, none⟩ = some (.int .i64 a0_4) := (blk_cell BK236.out 4).trans rfl
      have hfz27_0 := blk_frozen BK236.out 0
      have hfz27_1 := blk_frozen BK236.out 1
      have hfz27_2 := blk_frozen BK236.out 2
      have hfz27_3 := blk_frozen BK236.out 3
      have hfz27_4 := blk_frozen BK236.out 4
      have hcz28_0 : wr.cell? ⟨gb237, 0, none⟩ = some (.string a1_0) := (blk_cell BK237.out 0).trans rfl
      have hcz28_1 : wr.cell? ⟨gb237, 1, none⟩ = some (.string a1_1) := (blk_cell BK237.out 1).trans rfl
      have hcz28_2 : wr.cell? ⟨gb237, 2, none⟩ = some (.string a1_2) := (blk_cell BK237.out 2).trans rfl
      have hcz28_3 : wr.cell? ⟨gb237, 3, none⟩ = some (.string a1_3) := (blk_cell BK237.out 3).trans rfl
      have hcz28_4 : wr.cell? ⟨gb237, 4, none⟩ = some (.int .i64 a1_4) := (blk_cell BK237.out 4).trans rfl
      have hfz28_0 := blk_frozen BK237.out 0
      have hfz28_1 := blk_frozen BK237.out 1
      have hfz28_2 := blk_frozen BK237.out 2
      have hfz28_3 := blk_frozen BK237.out 3
      have hfz28_4 := blk_frozen BK237.out 4
      go_wp2; go_ret
      exact ⟨re_, bx⟩

end Go.Proofs.Ytdckeflggcefbaa.Y
namespace Go.Proofs.Ytdckeflggcefbaa.Y
open Go.RowKit Go.Proofs.YtdckeflggcefbaaW.PrintWords Go.Proofs.YtdckeflggcefbaaW.PrintLast Go.Proofs.YtdckeflggcefbaaW.PrintMore
set_option linter.unusedVariables false
set_option linter.unusedSimpArgs false
instance (x : Int) : Decidable (Fit x) := by unfold Fit; infer_instance
theorem cent_over (a b : Int) (ha : Fit a) (hb : Fit b) (hs : ¬ Fit (a + b)) : cent_Add.f a b = some (0, 2) := by
  unfold Fit at ha hb hs
  have hw : (0 ≤ a ∧ 0 ≤ b ∧ wrap64 (a + b) = a + b - 18446744073709551616) ∨ (a < 0 ∧ b < 0 ∧ wrap64 (a + b) = a + b + 18446744073709551616) := by
    unfold wrap64; omega
  have s1 : -9223372036854775808 ≤ wrap64 (a + b) := by unfold wrap64; omega
  have s2 : wrap64 (a + b) ≤ 9223372036854775807 := by unfold wrap64; omega
  obtain ⟨x1, x2, x3⟩ := bits_xor_neg a (wrap64 (a + b)) ha.1 ha.2 s1 s2
  obtain ⟨y1, y2, y3⟩ := bits_xor_neg b (wrap64 (a + b)) hb.1 hb.2 s1 s2
  unfold cent_Add.f
  rw [if_pos]
  rw [bits_and_neg _ _ x2 x3 y2 y3, x1, y1]
  omega
/-- The sum, as long as it fits. -/
def sumL : Int → List Int → Option Int
  | acc, [] => some acc
  | acc, y :: r => if Fit (acc + y) then sumL (acc + y) r else none
def res : Option Int → Int × Int
  | some n => (n, 0)
  | none => (0, 2)
theorem cent_res (a b : Int) (ha : Fit a) (hb : Fit b) : cent_Add.f a b = some (if Fit (a + b) then (a + b, 0) else (0, 2)) := by
  by_cases h : Fit (a + b)
  · rw [if_pos h, cent_fits a b ha hb h]
  · rw [if_neg h, cent_over a b ha hb h]
theorem ref_add (a b : Int) (ha : Fit a) (hb : Fit b) : comptrollerref01_Add.f a b = some (if Fit (a + b) then (a + b, 0) else (0, 2)) := by
  unfold Fit at ha hb
  unfold comptrollerref01_Add.f
  by_cases h : Fit (a + b)
  · rw [if_pos h]
    unfold Fit at h
    rw [w64 (n := a + b) (by omega) (by omega)]
    by_cases h1 : b > 0
    · rw [if_pos h1, w64 (n := 9223372036854775807 - b) (by omega) (by omega), if_neg (by omega), if_neg (by omega)]
    · rw [if_neg h1]
      by_cases h2 : b < 0
      · rw [if_pos h2, w64 (n := (-9223372036854775808) - b) (by omega) (by omega), if_neg (by omega)]
      · rw [if_neg h2]
  · rw [if_neg h]
    unfold Fit at h
    by_cases h1 : b > 0
    · rw [if_pos h1, w64 (n := 9223372036854775807 - b) (by omega) (by omega), if_pos (by omega)]
    · rw [if_neg h1, if_pos (by omega), w64 (n := (-9223372036854775808) - b) (by omega) (by omega), if_pos (by omega)]
theorem ofSum_res : ∀ (R : List S55) (acc : Int), Fit acc → (∀ y ∈ R, Fit y.f1) → ofSum acc R = some (res (sumL acc (R.map (·.f1))))
  | [], acc, _, _ => rfl
  | y :: R, acc, ha, h => by
    have hy := h y (by simp)
    unfold ofSum
    rw [cent_res acc y.f1 ha hy, Option.bind_some, List.map_cons]
    by_cases c : Fit (acc + y.f1)
    · simp only [if_pos c, if_true, sumL]
      exact ofSum_res R _ c fun z hz => h z (by simp [hz])
    · simp only [if_neg c, sumL]
      rfl
theorem rdI_app (P R : List Int) (x : Int) (i : Int) (hi : i = P.length) : rd (P ++ x :: R) i = x := by
  subst hi; simp [rd, List.getD_eq_getElem?_getD]
theorem refSum_ev_ : ∀ (R P : List Int) (acc : Int), (P ++ R).length ≤ 1000000 → Fit acc → (∀ y ∈ R, Fit y) → Ev (fun k => comptrollerref01_Sum.l0 k (P ++ R) acc P.length) (res (sumL acc R))
  | [], P, acc, h, ha, hR => by
    refine Ev.some fun k => ?_
    simp only [comptrollerref01_Sum.l0]
    rw [if_neg (by simp)]
    rfl
  | x :: R, P, acc, h, ha, hR => by
    have hl : (P ++ x :: R).length = P.length + R.length + 1 := by simp; omega
    have hx := hR x (by simp)
    have st : ∀ k, comptrollerref01_Sum.l0 (k + 1) (P ++ x :: R) acc P.length = if Fit (acc + x) then comptrollerref01_Sum.l0 k (P ++ x :: R) (acc + x) ((P ++ [x]).length : Nat) else some (0, 2) := fun k => by
      simp only [comptrollerref01_Sum.l0]
      rw [hl] at h ⊢
      rw [if_pos (by omega), if_pos (by omega), rdI_app P R x _ rfl, ref_add acc x ha hx, Option.bind_some, w64 (n := (P.length : Int) + 1) (by omega) (by omega), show ((P ++ [x]).length : Int) = (P.length : Int) + 1 by simp]
      by_cases c : Fit (acc + x)
      · simp only [if_pos c, if_true]
      · simp only [if_neg c]; rfl
    by_cases c : Fit (acc + x)
    · have ih := refSum_ev_ R (P ++ [x]) (acc + x) (by simp at h ⊢; omega) c fun z hz => hR z (by simp [hz])
      simp only [sumL, if_pos c]
      refine Ev.step (g := fun k => comptrollerref01_Sum.l0 k (P ++ x :: R) (acc + x) ((P ++ [x]).length : Nat)) (by simpa using ih) fun k => ?_
      show comptrollerref01_Sum.l0 (k + 1) _ _ _ = _
      rw [st, if_pos c]
    · simp only [sumL, if_neg c]
      exact Ev.some fun k => by rw [st, if_neg c]; rfl
theorem refSum_ev (l : List Int) (h : l.length ≤ 1000000) (hR : ∀ y ∈ l, Fit y) : Ev (fun k => comptrollerref01_Sum.f k l) (res (sumL 0 l)) := by
  simpa [comptrollerref01_Sum.f] using refSum_ev_ l [] 0 (by simpa using h) (by unfold Fit; omega) hR
theorem text_compare : ∀ x y : List UInt8, Lib.compareBytes x y = if Op.bytesLess x y = true then -1 else if Op.bytesLess y x = true then 1 else 0
  | [], [] => by simp [Lib.compareBytes, Op.bytesLess]
  | [], _ :: _ => by simp [Lib.compareBytes, Op.bytesLess]
  | _ :: _, [] => by simp [Lib.compareBytes, Op.bytesLess]
  | a :: x, b :: y => by
    have ih := text_compare x y
    simp only [Lib.compareBytes, Op.bytesLess]
    rcases Nat.lt_trichotomy a.toNat b.toNat with h | h | h
    · have h1 : a < b := h
      rw [if_pos h1]
      simp [h1]
    · obtain rfl := UInt8.toNat_inj.1 h
      have h1 : ¬ a < a := fun h' => absurd (show a.toNat < a.toNat from h') (by omega)
      rw [if_neg h1, if_neg h1, ih]
      simp [h1]
    · have h1 : b < a := h
      have h2 : ¬ a < b := fun h' => absurd (show a.toNat < b.toNat from h') (by omega)
      have h3 : ¬ (a = b) := fun e => by rw [e] at h; omega
      rw [if_neg h2, if_pos h1]
      simp [h1, h2, h3]
theorem text_f (a b : ByteArray) : comptrollerref09_text.f a b = some (Lib.compareBytes a.data.toList b.data.toList) := by
  unfold comptrollerref09_text.f
  rw [text_compare, Lib.toList_data, Lib.toList_data]
  split
  · rfl
  · split <;> rfl
def tk (k : S24) : S44 := ⟨k.f0, k.f1, k.f2, k.f3, k.f4⟩
theorem toT_key (x : S28) : (toT x).f0 = tk x.f0 := rfl
theorem refCmp_ev (x y : S44) : Ev (fun k => comptrollerref09_Cmp.f k x.f0 x.f1 x.f2 x.f3 x.f4 y.f0 y.f1 y.f2 y.f3 y.f4) (cmpK x y) := by
  refine ⟨6, fun k hk => ?_⟩
  obtain ⟨k, rfl⟩ : ∃ j, k = j + 6 := ⟨k - 6, by omega⟩
  simp only [comptrollerref09_Cmp.f, text_f, Option.bind_some, cmpK]
  have w1 : wrap64 1 = 1 := by unfold wrap64; omega
  have w2 : wrap64 2 = 2 := by unfold wrap64; omega
  have w3 : wrap64 3 = 3 := by unfold wrap64; omega
  have w4 : wrap64 4 = 4 := by unfold wrap64; omega
  have hI : ∀ a b : Int, (if a < b then some (-1 : Int) else if a > b then some 1 else some 0) = some (cmpI a b) := fun a b => by unfold cmpI; split <;> (try split) <;> rfl
  by_cases h0 : Lib.compareBytes x.f0.data.toList y.f0.data.toList = 0
  · by_cases h1 : Lib.compareBytes x.f1.data.toList y.f1.data.toList = 0
    · by_cases h2 : Lib.compareBytes x.f2.data.toList y.f2.data.toList = 0
      · by_cases h3 : Lib.compareBytes x.f3.data.toList y.f3.data.toList = 0
        · simp [comptrollerref09_Cmp.l0, rd, h0, h1, h2, h3, w1, w2, w3, w4]
          exact hI _ _
        · simp [comptrollerref09_Cmp.l0, rd, h0, h1, h2, h3, w1, w2, w3, w4]
      · simp [comptrollerref09_Cmp.l0, rd, h0, h1, h2, w1, w2, w3, w4]
    · simp [comptrollerref09_Cmp.l0, rd, h0, h1, w1, w2, w3, w4]
  · simp [comptrollerref09_Cmp.l0, rd, h0, w1, w2, w3, w4]
end Go.Proofs.Ytdckeflggcefbaa.Y
namespace Go.Proofs.Ytdckeflggcefbaa.Y
open Go.RowKit Go.Maps
set_option linter.unusedVariables false
set_option linter.unusedSimpArgs false
/-- The sum of an entity's facts; of all. -/
def esum (s : ByteArray) : List S28 → Int
  | [] => 0
  | x :: L => (if x.f0.f0.toList = s.toList then x.f1 else 0) + esum s L
def asum : List S28 → Int
  | [] => 0
  | x :: L => x.f1 + asum L
abbrev DU := DataW Unit
noncomputable abbrev eU : Value → Option (DataW Unit × List MemPlace) := plainElem (H := Unit) Try.prog 2
abbrev iU (n : Int) : DataW Unit := .lit (.int .i64 n)
def M1 (D : DU) (L : List S28) : Prop := ∀ q kl, keyOf Try.prog 24 (aggK q) = some kl → D.atKey kl (iU 0) = iU (amt (tk q) (L.map toT))
def M2 (D : DU) (L : List S28) : Prop := ∀ s kl, keyOf Try.prog 9 (.string s) = some kl → D.atKey kl (iU 0) = iU (esum s L)
theorem iU_inj {a b : Int} (h : iU a = iU b) : a = b := by
  injection h with h
  injection h
theorem aggK_inj {a b : S24} (h : aggK a = aggK b) : a = b := by
  simp only [aggK, Value.agg.injEq, Array.mk.injEq, List.cons.injEq, Value.string.injEq, Value.int.injEq, true_and, and_true] at h
  cases a; cases b
  simp only at h
  obtain ⟨rfl, rfl, rfl, rfl, rfl⟩ := h
  rfl
theorem amt_snoc (q : S44) (L : List S28) (x : S28) : amt q ((L ++ [x]).map toT) = amt q (L.map toT) + (if cmpK q (tk x.f0) = 0 then x.f1 else 0) := by
  rw [List.map_append, amt_app]
  simp only [List.map_cons, List.map_nil, amt]
  show _ + ((if cmpK q (tk x.f0) = 0 then x.f1 else 0) + 0) = _
  omega
theorem esum_snoc (s : ByteArray) (x : S28) : ∀ L : List S28, esum s (L ++ [x]) = esum s L + (if x.f0.f0.toList = s.toList then x.f1 else 0)
  | [] => by simp only [List.nil_append, esum]; omega
  | y :: L => by simp only [List.cons_append, esum, esum_snoc s x L]; omega
theorem asum_snoc (x : S28) : ∀ L : List S28, asum (L ++ [x]) = asum L + x.f1
  | [] => by simp only [List.nil_append, asum]; omega
  | y :: L => by simp only [List.cons_append, asum, asum_snoc x L]; omega
theorem amt_small (q : S44) (B : Nat) : ∀ L : List S28, (∀ y ∈ L, y.f1.natAbs ≤ B) → (amt q (L.map toT)).natAbs ≤ L.length * B
  | [], _ => by simp [amt]
  | y :: L, h => by
    have ih := amt_small q B L (fun z hz => h z (by simp [hz]))
    have hy := h y (by simp)
    simp only [List.map_cons, amt, List.length_cons, Nat.succ_mul]
    have : (toT y).f1 = y.f1 := rfl
    split <;> omega
theorem esum_small (s : ByteArray) (B : Nat) : ∀ L : List S28, (∀ y ∈ L, y.f1.natAbs ≤ B) → (esum s L).natAbs ≤ L.length * B
  | [], _ => by simp [esum]
  | y :: L, h => by
    have ih := esum_small s B L (fun z hz => h z (by simp [hz]))
    have hy := h y (by simp)
    simp only [esum, List.length_cons, Nat.succ_mul]
    split <;> omega
theorem asum_small (B : Nat) : ∀ L : List S28, (∀ y ∈ L, y.f1.natAbs ≤ B) → (asum L).natAbs ≤ L.length * B
  | [], _ => by simp [asum]
  | y :: L, h => by
    have ih := asum_small B L (fun z hz => h z (by simp [hz]))
    have hy := h y (by simp)
    simp only [asum, List.length_cons, Nat.succ_mul]
    omega
/-- Few facts, none great. -/
def Sml (l : List S28) : Prop := l.length ≤ 150 ∧ ∀ y ∈ l, y.f1.natAbs ≤ 4503599627370496
theorem Sml.take {l : List S28} (h : Sml l) (n : Nat) : Sml (l.take n) := ⟨by have := h.1; simp; omega, fun y hy => h.2 y (List.mem_of_mem_take hy)⟩
theorem M1_nil : M1 (.map []) [] := fun q kl _ => rfl
theorem M2_nil : M2 (.map []) [] := fun s kl _ => rfl
theorem M1_step {D : DU} {L : List S28} {x : S28} {kl : Lit} {cv : Int} (hD : IsMap D) (hkey : keyOf Try.prog 24 (aggK x.f0) = some kl) (m : M1 D L) (hat : D.atKey kl (iU 0) = iU cv) (hs : Sml (L ++ [x])) : M1 (D.put kl (iU (wrap64 (cv + x.f1)))) (L ++ [x]) := by
  have hc : cv = amt (tk x.f0) (L.map toT) := iU_inj (hat.symm.trans (m x.f0 kl hkey))
  have b1 := amt_small (tk x.f0) 4503599627370496 (L ++ [x]) hs.2
  have b0 := hs.1
  have e1 := amt_snoc (tk x.f0) L x
  rw [if_pos (cmpK_good.refl _), ← hc] at e1
  have hw : wrap64 (cv + x.f1) = cv + x.f1 := by rw [← e1]; exact w64 (by omega) (by omega)
  intro q kl' hk
  by_cases e : kl' = kl
  · subst e
    have eq := aggK_inj (law24.inj hk hkey)
    subst eq
    rw [atKey_put_same hD (law24.key hkey), hw, e1]
  · rw [atKey_put_other e, m q kl' hk, amt_snoc, if_neg (fun hz => e ?_)]
    · congr 2; omega
    · have : q = x.f0 := by
        have := (cmpK_zero _ _).1 hz
        cases q; cases h : x.f0
        rw [h] at this
        simp only [tk, S44.mk.injEq] at this
        obtain ⟨rfl, rfl, rfl, rfl, rfl⟩ := this
        rfl
      subst this
      exact Option.some.inj (hk.symm.trans hkey)
theorem M2_step {D : DU} {L : List S28} {x : S28} {kl : Lit} {cv : Int} (hD : IsMap D) (hkey : keyOf Try.prog 9 (.string x.f0.f0) = some kl) (m : M2 D L) (hat : D.atKey kl (iU 0) = iU cv) (hs : Sml (L ++ [x])) : M2 (D.put kl (iU (wrap64 (cv + x.f1)))) (L ++ [x]) := by
  have hc : cv = esum x.f0.f0 L := iU_inj (hat.symm.trans (m x.f0.f0 kl hkey))
  have b1 := esum_small x.f0.f0 4503599627370496 (L ++ [x]) hs.2
  have b0 := hs.1
  have e1 := esum_snoc x.f0.f0 x L
  rw [if_pos rfl, ← hc] at e1
  have hw : wrap64 (cv + x.f1) = cv + x.f1 := by rw [← e1]; exact w64 (by omega) (by omega)
  intro s kl' hk
  by_cases e : kl' = kl
  · subst e
    have eq := law9.inj hk hkey
    injection eq with eq
    subst eq
    rw [atKey_put_same hD (law9.key hkey), hw, e1]
  · rw [atKey_put_other e, m s kl' hk, esum_snoc, if_neg (fun hz => e ?_)]
    · congr 2; omega
    · have : x.f0.f0 = s := bytes_eq (by rw [← Lib.toList_data, ← Lib.toList_data]; exact hz)
      subst this
      exact Option.some.inj (hk.symm.trans hkey)
theorem rd28_mem {l : List S28} {i : Int} (h0 : 0 ≤ i) (h1 : i < (l.length : Int)) : rd_T28 l i ∈ l := by
  have h : i.toNat < l.length := by omega
  simp only [rd_T28, List.getD_eq_getElem?_getD, List.getElem?_eq_getElem h, Option.getD_some]
  exact List.getElem_mem h
theorem take_snoc {l : List S28} {i : Int} (h0 : 0 ≤ i) (h1 : i < (l.length : Int)) : l.take (i + 1).toNat = l.take i.toNat ++ [rd_T28 l i] := by
  have h : i.toNat < l.length := by omega
  rw [show (i + 1).toNat = i.toNat + 1 by omega, List.take_add_one, List.getElem?_eq_getElem h]
  simp only [rd_T28, List.getD_eq_getElem?_getD, List.getElem?_eq_getElem h, Option.getD_some, Option.toList_some]
theorem isMap_own {w : World} {k : TypeId} {b n : Nat} {D : DU} (h : w.ownsMap Try.prog k eU b n D) (K : Keyed Try.prog k) : IsMap D := by
  obtain ⟨es, e, _⟩ := h.entries K
  exact ⟨es, e⟩
theorem rng_eq {P : Program} {w w' : World} {k : TypeId} {R : Value → Option (DataW Unit × List MemPlace)} {b r n : Nat} {D : DU} {left : Lit → Bool} {cnt : Nat} (h : w.ranges P k R b r n D left cnt) (e1 : w'.heap[b]? = w.heap[b]?) (e2 : w'.heap[r]? = w.heap[r]?) : w'.ranges P k R b r n D left cnt := by
  obtain ⟨es, clock, since, seen, c0, hb, F, hs, hD, hr, rest⟩ := h
  exact ⟨es, clock, since, seen, c0, e1.trans hb, F, hs, hD, e2.trans hr, rest⟩
theorem size_set (w : World) (p : Addr) (u : Value) : (w.setCell p u).heap.size = w.heap.size := by simp [World.setCell]
theorem sets24_keep {w0 w1 w2 : World} {g : Nat} {x : S24} (hg : g = w0.heap.size) (h1 : Below w0.heap.size w0 w1) (h2 : Below (((((w1.setCell ⟨g, 0, none⟩ (.string x.f0)).setCell ⟨g, 1, none⟩ (.string x.f1)).setCell ⟨g, 2, none⟩ (.string x.f2)).setCell ⟨g, 3, none⟩ (.string x.f3)).setCell ⟨g, 4, none⟩ (.int .i64 x.f4)).heap.size (((((w1.setCell ⟨g, 0, none⟩ (.string x.f0)).setCell ⟨g, 1, none⟩ (.string x.f1)).setCell ⟨g, 2, none⟩ (.string x.f2)).setCell ⟨g, 3, none⟩ (.string x.f3)).setCell ⟨g, 4, none⟩ (.int .i64 x.f4)) w2) :
    ∀ j, j < g → w2.heap[j]? = w0.heap[j]? := fun j hj => by
  have hs := h1.size
  rw [h2.block j (by simp only [size_set]; omega), Below.heap_setCell _ _ _ _ (by show j ≠ g; omega), Below.heap_setCell _ _ _ _ (by show j ≠ g; omega), Below.heap_setCell _ _ _ _ (by show j ≠ g; omega), Below.heap_setCell _ _ _ _ (by show j ≠ g; omega), Below.heap_setCell _ _ _ _ (by show j ≠ g; omega)]
  exact h1.block j (by omega)
section
variable (w : World) {ops : Array Oper} {rest : List Oper} {o : Oper} {a : Act} {Q : Exit → Act → World → Prop}
/-- The step of a loop over the map of keys' sums. -/
theorem wpList_next_keys (hg : o.guard = none) (it : Operand) (hop : o.op = Op.next it false) (b r n : Nat) (D : DU) (left : Lit → Bool) (cnt : Nat)
    (hit : a.eval it = .pointer (some ⟨r, 0, none⟩)) (h : w.ranges Try.prog 24 eU b r n D left cnt)
    (hDone : wpList Try.prog ops Q rest (a.put o.dst (.tuple #[.bool false])) w)
    (hMore : ∀ (x : S24) (c : Int) (kl : Lit) (w' : World) (left' : Lit → Bool) (cnt' : Nat), keyOf Try.prog 24 (aggK x) = some kl → D.atKey kl (iU 0) = iU c → w'.ranges Try.prog 24 eU b r n D left' cnt' → cnt' < cnt →
      w.grownBy w' (some r) → (Instr.entry (.pointer (some ⟨r, 0, none⟩))).run Try.prog w' = .ok (.tuple #[.agg #[.string x.f0, .string x.f1, .string x.f2, .string x.f3, .int .i64 x.f4], .int .i64 c]) w' →
      wpList Try.prog ops Q rest (a.put o.dst (.tuple #[.bool true, .agg #[.string x.f0, .string x.f1, .string x.f2, .string x.f3, .int .i64 x.f4], .int .i64 c])) w') :
    wpList Try.prog ops Q (o :: rest) a w :=
  wpList_next_ranges w hg it hop 24 law24 eU aggK (Value.int .i64) (fun key kl h => key24_inv h) (fun v y h => by obtain ⟨c, rfl, _⟩ := plainElem_int_inv Try.underlying2 h; exact ⟨c, rfl⟩)
    b r n D left cnt hit h (fun _ _ => hDone) (fun x c kl y w' cnt' hkey hlk hv hat hrg hlt hgr hsz hen => by
      obtain ⟨c', ec, rfl, hwc⟩ := plainElem_int_inv Try.underlying2 hv
      cases ec
      exact hMore x c kl w' _ cnt' hkey (hat _) hrg hlt hgr hen)
/-- The step of a loop over the map of entities' sums. -/
theorem wpList_next_strs (hg : o.guard = none) (it : Operand) (hop : o.op = Op.next it false) (b r n : Nat) (D : DU) (left : Lit → Bool) (cnt : Nat)
    (hit : a.eval it = .pointer (some ⟨r, 0, none⟩)) (h : w.ranges Try.prog 9 eU b r n D left cnt)
    (hDone : wpList Try.prog ops Q rest (a.put o.dst (.tuple #[.bool false])) w)
    (hMore : ∀ (x : ByteArray) (c : Int) (kl : Lit) (w' : World) (left' : Lit → Bool) (cnt' : Nat), keyOf Try.prog 9 (.string x) = some kl → D.atKey kl (iU 0) = iU c → w'.ranges Try.prog 9 eU b r n D left' cnt' → cnt' < cnt →
      w.grownBy w' (some r) → (Instr.entry (.pointer (some ⟨r, 0, none⟩))).run Try.prog w' = .ok (.tuple #[.string x, .int .i64 c]) w' →
      wpList Try.prog ops Q rest (a.put o.dst (.tuple #[.bool true, .string x, .int .i64 c])) w') :
    wpList Try.prog ops Q (o :: rest) a w :=
  wpList_next_ranges w hg it hop 9 law9 eU Value.string (Value.int .i64) (fun key kl h => key9_inv h) (fun v y h => by obtain ⟨c, rfl, _⟩ := plainElem_int_inv Try.underlying2 h; exact ⟨c, rfl⟩)
    b r n D left cnt hit h (fun _ _ => hDone) (fun x c kl y w' cnt' hkey hlk hv hat hrg hlt hgr hsz hen => by
      obtain ⟨c', ec, rfl, hwc⟩ := plainElem_int_inv Try.underlying2 hv
      cases ec
      exact hMore x c kl w' _ cnt' hkey (hat _) hrg hlt hgr hen)
end
end Go.Proofs.Ytdckeflggcefbaa.Y
namespace Go.Proofs.Ytdckeflggcefbaa.Y
open Go.RowKit Go.Maps Go.Proofs.YtdckeflggcefbaaW.PrintWords Go.Proofs.YtdckeflggcefbaaW.PrintLast Go.Proofs.YtdckeflggcefbaaW.PrintMore
set_option linter.unusedVariables false
set_option linter.unusedSimpArgs false
def gets_T : Bool × List (List Nat × List Nat) := (true, [([], []), ([], []), ([1], [1]), ([0, 2], [0, 2]), ([], []), ([4], [4]), ([3, 5], [3, 5]), ([0, 2, 0, 1, 2, 4, 5], [0, 2]), ([7], [7]), ([0, 8, 6, 7, 0, 1, 2, 3, 4, 5, 6, 7, 8], [0, 6, 8])])
def gets_B : List Nat := [0, 0, 2, 7, 0, 16, 63, 55, 183, 511]
theorem gets_tab : rtab .any (opsOf Try.f5 14) = gets_T := by kernel_rfl
theorem gets_bits : waitsOk gets_T.2 gets_B = true := by kernel_rfl
theorem opv {P : Program} {ops : Array Oper} {oi : Oper} {N : Option Tmp} {a : Act} {w : World} {K : Act → World → Prop} {Q : Exit → Act → World → Prop} (v : Value) (w' : World) (hw : Region.wanted oi (yielded ops a.tmps) = true) (hN : oi.dst = N) (hrun : (execOp a.eval oi).run P w = .ok (.value v) w')
    (h : K (a.put N v) w') : if Region.wanted oi (yielded ops a.tmps) = true then Oper.wp P oi a w K Q else K (a.put N undef) w := by
  rw [if_pos hw]
  subst hN
  unfold Oper.wp
  rw [hrun, Oper.upon_value]
  exact h
theorem opk {P : Program} {ops : Array Oper} {oi : Oper} {a : Act} {w : World} {K : Act → World → Prop} {Q : Exit → Act → World → Prop} (w' : World) (hw : Region.wanted oi (yielded ops a.tmps) = true) (hN : oi.dst = none) (hrun : (execOp a.eval oi).run P w = .ok .skip w')
    (h : K a w') : if Region.wanted oi (yielded ops a.tmps) = true then Oper.wp P oi a w K Q else K (a.put none undef) w := by
  rw [if_pos hw]
  unfold Oper.wp
  rw [hrun, Oper.upon_skip, hN]
  exact h
set_option maxHeartbeats 8000000 in
set_option maxRecDepth 100000 in
theorem gets_all (k : Nat) (A0 : Option Addr) (c0 : Nat) (l0 : List S28) (t c : List S55) (w : World) (hr0 : Kd.C k28 w A0 l0.length l0) (hc0 : l0.length ≤ c0) (ha : comptrollerlaw09_alive.f k = some true) (hf : comptrollerlaw09_Few.f k l0 = some true) (hs : comptrollerlaw09_small.f k l0 = some true)
    (ht : comptrollerlaw09_Theirs.f k l0 = some t) (ho : fact_Of.f k t = some (c, 0)) (hkey : ∀ x ∈ l0, ∃ kl, keyOf Try.prog 24 (aggK x.f0) = some kl) (hlen : l0.length ≤ maxLen) (hstr : ∀ x ∈ l0, x.f0.f0.size ≤ maxLen) (hsm : Sml l0) (hG : ∀ q : S24, ∃ k, fact_Get.f k c q.f0 q.f1 q.f2 q.f3 q.f4 = some (amt (tk q) (l0.map toT))) (hS0 : fact_Sum.f k c (⟨#[]⟩ : ByteArray) (⟨#[]⟩ : ByteArray) (⟨#[]⟩ : ByteArray) = some (asum l0, 0)) (hS : ∀ s : ByteArray, ∃ k n, fact_Sum.f k c s (⟨#[]⟩ : ByteArray) (⟨#[]⟩ : ByteArray) = some (n, 0) ∧ (s.toList ≠ [] → n = esum s l0)) :
    Calls Try.prog 5 #[.slice A0 l0.length c0] w fun e w' => e = .returned (.bool true) ∧ Below w.heap.size w w' := by
  have hu28 := Try.underlying28
  have hmm := @run_makeMap Try.prog
  have HR0 := Aside0.mk hr0
  have HC0 := Aside0.mk hc0
  have A4 := Aside0.mk ha
  have A8 := Aside0.mk hf
  have A10 := Aside0.mk hs
  have A12 := Aside0.mk ht
  have A14 := Aside0.mk ho
  have HKEY := Aside0.mk hkey
  have HLEN := Aside0.mk hlen
  have HSTR := Aside0.mk hstr
  have HSM := Aside0.mk hsm
  have HG := Aside0.mk hG
  have HS0 := Aside0.mk hS0
  have HS := Aside0.mk hS
  clear hr0 hc0 ha hf hs ht ho hkey hlen hstr hsm hG hS0 hS
  have HB := Aside0.mk (Below.refl w.heap.size w)
  go_enter Try.func5, Try.ntmps5
  go_upto_region 11 with (first
    | ((with_reducible refine gate_callee (f := 6) rfl ?_); refine goesL_ (some 18) rfl rfl Try.func6 (by kernel_rfl) rfl #[] rfl mp_ ?_; (with_reducible refine (comptrollerlaw09_alive.calls k true _ A4.out).mono ?_); rintro e w7 ⟨rfl, hb⟩; refine ⟨_, rfl, ?_⟩; have n0_ := Aside0.mk (below_step bw hb); clear HB; have HB := n0_; clear n0_ hb)
    | ((with_reducible refine gate_callee (f := 7) rfl ?_); refine goesL_ (some 21) rfl rfl Try.func7 (by kernel_rfl) rfl #[.slice A0 l0.length c0] rfl mp_ ?_; (with_reducible refine (comptrollerlaw09_Few.calls k _ _ l0 true _ (Kd.C_below HR0.out HB.out) HC0.out A8.out).mono ?_); rintro e w12 ⟨rfl, hb⟩; refine ⟨_, rfl, ?_⟩; have n0_ := Aside0.mk (below_step bw hb); clear HB; have HB := n0_; clear n0_ hb)
    | ((with_reducible refine gate_callee (f := 10) rfl ?_); refine goesL_ (some 30) rfl rfl Try.func10 (by kernel_rfl) rfl #[.slice A0 l0.length c0] rfl mp_ ?_; (with_reducible refine (comptrollerlaw09_Theirs.calls k _ _ l0 t _ (Kd.C_below HR0.out HB.out) HC0.out A12.out).mono ?_); rintro e w14 ⟨v14, rfl, ho0, hb⟩; refine ⟨_, rfl, ?_⟩; have n0_ := Aside0.mk (below_step bw hb); have n1_ := Aside0.mk (Kd.R_lower ho0 (below_size bw)); clear HB; have HB := n0_; have HT := n1_; clear n0_ n1_ hb ho0; obtain ⟨At, ct, et⟩ := Kd.R_slice HT.out; subst et)
    | ((with_reducible refine gate_callee (f := 21) rfl ?_); refine goesL_ (some 31) rfl rfl Try.func21 (by kernel_rfl) rfl #[.slice At t.length ct] rfl mp_ ?_; (with_reducible refine (fact_Of.calls k _ _ t c 0 _ (Kd.R_reads' HT.out).2.2 (Kd.R_reads' HT.out).2.1 A14.out).mono ?_); rintro e w15 ⟨v15, rfl, ho0, hb⟩; refine ⟨_, rfl, ?_⟩; have n0_ := Aside0.mk (below_step bw hb); have n1_ := Aside0.mk (Kd.R_lower ho0 (below_size bw)); clear HB; have HB := n0_; have HQ := n1_; clear HT n0_ n1_ hb ho0; obtain ⟨Ac, cc, ec⟩ := Kd.R_slice HQ.out; subst ec)
    | (go_at_call 20; (with_reducible refine (comptrollerlaw09_small.calls k _ _ l0 true _ (Kd.C_below HR0.out HB.out) HC0.out A10.out).mono ?_); rintro e w13 ⟨rfl, hb⟩; have n0_ := Aside0.mk (below_step bw hb); clear HB; have HB := n0_; clear n0_ hb))
  have hM1 : ((w15.alloc (.map #[] 0)).alloc (.map #[] 0)).ownsMap Try.prog 24 eU w15.heap.size 0 (.map []) := (World.ownsMap_made w15 _ _ _).alloc _
  have hM2 : ((w15.alloc (.map #[] 0)).alloc (.map #[] 0)).ownsMap Try.prog 9 eU (w15.heap.size + 1) 0 (.map []) := by
    have := World.ownsMap_made (H := Unit) (w15.alloc (.map #[] 0)) Try.prog 9 eU
    simpa using this
  have hQ : Kd.R k55 55 ((w15.alloc (.map #[] 0)).alloc (.map #[] 0)) w.heap.size (fun j => j < w15.heap.size) (.slice Ac c.length cc) c := Kd.R_alloc (Kd.R_alloc (Kd.R_mono (Kd.R_bound HQ.out) (fun _ h => h.2.2.1)) _) _
  have hB : Below w.heap.size w ((w15.alloc (.map #[] 0)).alloc (.map #[] 0)) := bw
  have hlow : w.heap.size ≤ w15.heap.size := below_size HB.out
  obtain ⟨B, hBe⟩ : ∃ B, B = w15.heap.size := ⟨_, rfl⟩
  have e2 : (w15.alloc (.map #[] 0)).heap.size = B + 1 := by rw [hBe]; simp
  rw [← hBe] at hM1 hM2 hQ hlow
  clear HQ HB
  rw [← hBe]
  generalize ((w15.alloc (.map #[] 0)).alloc (.map #[] 0)) = W at hM1 hM2 hQ hB ⊢
  clear hBe e2
  have HQ := Aside0.mk hQ
  have HB := Aside0.mk hB
  have HL := Aside0.mk hlow
  have HM := Aside0.mk (And.intro hM1 hM2)
  clear hQ hB hlow hM1 hM2
  go_wp2
  go_loopg [6, 40] l0.length (fun kq v6 v40 wr => ∃ (x40 s6 : Int), v40 = .int .i64 x40 ∧ v6 = .int .i64 s6 ∧ Aside0 (0 ≤ x40 ∧ x40.toNat + kq = l0.length ∧ s6 = asum (l0.take x40.toNat)) ∧ Aside0 (∃ D1 D2, (wr.ownsMap Try.prog 24 eU B x40.toNat D1 ∧ M1 D1 (l0.take x40.toNat)) ∧ (wr.ownsMap Try.prog 9 eU (B + 1) x40.toNat D2 ∧ M2 D2 (l0.take x40.toNat))) ∧ Aside0 (Kd.R k55 55 wr w.heap.size (fun j => j < B) (.slice Ac c.length cc) c) ∧ Aside0 (Below w.heap.size w wr))
  case atStart => exact ⟨0, 0, rfl, rfl, ⟨⟨Int.le_refl _, by simp, rfl⟩⟩, ⟨⟨_, _, ⟨HM.out.1, M1_nil⟩, ⟨HM.out.2, M2_nil⟩⟩⟩, HQ, HB⟩
  case round =>
    obtain ⟨x40, s6, rfl, rfl, HI, HM, HQ, HB⟩ := hrel
    by_cases hi : x40 < (l0.length : Int)
    · have hib : decide (x40 < (l0.length : Int)) = true := decide_eq_true hi
      have p1 : 0 ≤ x40 := HI.out.1
      obtain ⟨ad, e1, hx0, hx1, hx2, hx3, hx4, hx5⟩ := at_T28 HR0.out x40 p1 hi
      cases e1
      replace hx0 := cb HB hx0
      replace hx1 := cb HB hx1
      replace hx2 := cb HB hx2
      replace hx3 := cb HB hx3
      replace hx4 := cb HB hx4
      replace hx5 := cb HB hx5
      obtain ⟨x, hx⟩ : ∃ x, x = rd_T28 l0 x40 := ⟨_, rfl⟩
      rw [← hx] at hx0 hx1 hx2 hx3 hx4 hx5
      have HX := Aside0.mk hx
      clear hx
      replace p1 := eq_true p1
      replace hi := eq_true hi
      go_upto_region 14 with (first | ((with_reducible refine gate_dst (N := 9) rfl ?_); refine box_event ?hg (N := 9) ?hd (cs := #[.string (⟨#[]⟩ : ByteArray), .string (⟨#[]⟩ : ByteArray), .string (⟨#[]⟩ : ByteArray), .string (⟨#[]⟩ : ByteArray), .int .i64 0, .int .i64 0]) (t := 28) ?hr ?_; (case hd => rfl); (case hg => rfl); (case hr => first | (go_simp; done) | (go_simp; rfl)); intro gb hg w6 hbox hb; have n0_ := Aside0.mk (below_step bw hb); have n2_ := Aside0.mk hbox; have n3_ := Aside0.mk hg; have n4_ := Aside0.mk hb; have n5_ := Aside0.mk ((by rw [hg]; exact (below_size bw) : w.heap.size ≤ gb)); clear HB; have HB := n0_; have BK := n2_; have GG := n3_; have HN := n4_; have GE := n5_; clear n0_ n2_ n3_ n4_ n5_; clear hb hbox hg; obtain ⟨hcz0, hcz1, hcz2, hcz3, hcz4, hcz5⟩ := bc6 BK.out; have hfz0 := blk_frozen BK.out 0; have hfz1 := blk_frozen BK.out 1; have hfz2 := blk_frozen BK.out 2; have hfz3 := blk_frozen BK.out 3; have hfz4 := blk_frozen BK.out 4; have hfz5 := blk_frozen BK.out 5))
      obtain ⟨W7, hW7⟩ : ∃ W7, W7 = ((((((w6.setCell ⟨gb, 0, none⟩ (.string x.f0.f0)).setCell ⟨gb, 1, none⟩ (.string x.f0.f1)).setCell ⟨gb, 2, none⟩ (.string x.f0.f2)).setCell ⟨gb, 3, none⟩ (.string x.f0.f3)).setCell ⟨gb, 4, none⟩ (.int .i64 x.f0.f4)).setCell ⟨gb, 5, none⟩ (.int .i64 x.f1)) := ⟨_, rfl⟩
      have hb7 : W7.heap[gb]? = some (.cells #[.string x.f0.f0, .string x.f0.f1, .string x.f0.f2, .string x.f0.f3, .int .i64 x.f0.f4, .int .i64 x.f1] 28 (0, 0)) := by rw [hW7]; exact bp28 BK x
      have hB7 : Below w.heap.size w W7 := by rw [hW7]; exact bx
      have keep7 : ∀ j, j < gb → W7.heap[j]? = wr.heap[j]? := fun j hj => by
        rw [hW7, Below.heap_setCell _ _ _ _ (by show j ≠ gb; omega), Below.heap_setCell _ _ _ _ (by show j ≠ gb; omega), Below.heap_setCell _ _ _ _ (by show j ≠ gb; omega), Below.heap_setCell _ _ _ _ (by show j ≠ gb; omega), Below.heap_setCell _ _ _ _ (by show j ≠ gb; omega), Below.heap_setCell _ _ _ _ (by show j ≠ gb; omega)]
        exact HN.out.block j (by rw [← GG.out]; exact hj)
      rw [← hW7]
      clear hcz0 hcz1 hcz2 hcz3 hcz4 hcz5 hfz0 hfz1 hfz2 hfz3 hfz4 hfz5 hW7 HB HN
      obtain ⟨D1, D2, ⟨o1, m1⟩, ⟨o2, m2⟩⟩ := HM.out
      have lt1 : B < gb := by rw [GG.out]; exact o1.lt
      have lt2 : B + 1 < gb := by rw [GG.out]; exact o2.lt
      obtain ⟨Wd, hWd⟩ : ∃ Wd, Wd = W7.drew := ⟨_, rfl⟩
      have hbd : Wd.heap[gb]? = some (.cells #[.string x.f0.f0, .string x.f0.f1, .string x.f0.f2, .string x.f0.f3, .int .i64 x.f0.f4, .int .i64 x.f1] 28 (0, 0)) := by rw [hWd]; exact hb7
      have O1 := own_eq (w' := Wd) o1 (by rw [hWd]; exact keep7 _ lt1)
      have O2 := own_eq (w' := Wd) o2 (by rw [hWd]; exact keep7 _ lt2)
      have Q7 : Kd.R k55 55 Wd w.heap.size (fun j => j < B) (.slice Ac c.length cc) c := Kd.R_move HQ.out fun j hj => by rw [hWd]; exact keep7 j (by omega)
      have hBd : Below w.heap.size w Wd := by rw [hWd]; exact below_drew1 hB7
      obtain ⟨kl, hkey⟩ := HKEY.out x (by rw [HX.out]; exact rd28_mem (HI.out.1) (by simpa using hi))
      obtain ⟨cv, st, W8, hat, hwc, hme, hl7, hl8, hg8, hes⟩ := add_want O1 (Nat.lt_of_lt_of_le (by have := HI.out; simp at hi; omega) HLEN.out) hkey
      obtain ⟨W9, hst, O19, hg9⟩ := hes (wrap64 (cv + x.f1)) (wrap64_wf _)
      have hb8 : W8.heap[gb]? = some (.cells #[.string x.f0.f0, .string x.f0.f1, .string x.f0.f2, .string x.f0.f3, .int .i64 x.f0.f4, .int .i64 x.f1] 28 (0, 0)) := blk_grown hbd hg8 (by simp; omega)
      have hb9 : W9.heap[gb]? = some (.cells #[.string x.f0.f0, .string x.f0.f1, .string x.f0.f2, .string x.f0.f3, .int .i64 x.f0.f4, .int .i64 x.f1] 28 (0, 0)) := blk_grown hbd hg9 (by simp; omega)
      have AM := Aside0.mk (And.intro hkey (And.intro hat (And.intro hwc (And.intro O19 (And.intro (O2.kept hg9 (by simp)) (And.intro m1 (And.intro m2 (Kd.R_grown Q7 hg9 (by intro j hj e; simp at e; omega)))))))))
      have HB := Aside0.mk (show Below w.heap.size w W9 from hBd.grown hg9 hBd.size (fun j hj => by cases hj; exact HL.out))
      have IS := Aside0.mk (And.intro (isMap_own o1 law24) (isMap_own o2 law9))
      have BK8 := Aside0.mk hb8
      have BK9 := Aside0.mk hb9
      clear BK
      have BK := Aside0.mk (And.intro lt1 lt2)
      simp only [aggK] at hme hl7 hl8
      simp only [goInt] at hst
      obtain ⟨hc0, hc1, hc2, hc3, hc4, hc5⟩ := bc6 hbd
      clear hkey hat hwc O1 O2 m1 m2 Q7 lt1 lt2 hg8 O19 hg9 hes hb7 hB7 hb8 hb9 hbd hBd o1 o2 keep7
      refine start_ (n := 10) (S := fun w' => w'.cell? ⟨gb, 0, none⟩ = some (.string x.f0.f0) ∧ w'.cell? ⟨gb, 1, none⟩ = some (.string x.f0.f1) ∧ w'.cell? ⟨gb, 2, none⟩ = some (.string x.f0.f2) ∧ w'.cell? ⟨gb, 3, none⟩ = some (.string x.f0.f3) ∧ w'.cell? ⟨gb, 4, none⟩ = some (.int .i64 x.f0.f4) ∧ w'.cell? ⟨gb, 5, none⟩ = some (.int .i64 x.f1)) (ds := []) (fl 10 0) (by kernel_rfl) rfl rfl (hWd ▸ ⟨hc0, hc1, hc2, hc3, hc4, hc5⟩) (fun hHeld => ?_); refine with_tabW gets_tab gets_bits (fun HT_ HW_ => ?_)
      rw [← hWd] at hHeld ⊢
      clear hWd
      refine pu 0 (some 44) (fl 10 1) HT_ ?_
      refine pu 1 (some 45) (fl 10 3) HT_ ?_
      refine pu 4 (some 48) (fl 10 19) HT_ ?_
      refine tu 2 (some 46) (fl 10 23) HT_ HW_ hHeld ?_
      refine tu 5 (some 49) (fl 10 55) HT_ HW_ hHeld ?_
      refine join_ (σ := Unit) 0 (fl 10 1023) (fun _ => [(47, .int .i64 cv), (50, .int .i64 (wrap64 (cv + x.f1))), (51, .tuple #[.int .i64 cv, goInt st]), (52, goInt st)]) (fun _ w' => w' = W9) (fun _ w' e => ?cont) (fun hc => ?walk)
      case walk =>
        refine two_ (i := 3) (j := 7) (Ni := some 47) (Nj := some 51) (fl 10 63) (fl 10 183) rfl rfl rfl rfl (two_of HT_.out (by kernel_rfl)) (by decide) (by decide) (fun K hK => ?_) (fun K hK => ?_)
        · refine opv (.int .i64 cv) Wd (by rfl) rfl (by go_simp) ?_
          refine hK.out _ _ hHeld (fun hHeld => ?_)
          refine pu 6 (some 50) (fl 10 127) HT_ ?_
          refine one_ (i := 7) (N := some 51) (fl 10 255) rfl rfl (one_of HT_.out (by kernel_rfl)) (by decide) (fun K hK => ?_)
          refine opv (.tuple #[.int .i64 cv, goInt st]) W8 (by rfl) rfl (by go_simp) ?_
          refine hK.out _ _ (bc6 BK8.out) (fun hHeld => ?_)
          refine pu 8 (some 52) (fl 10 511) HT_ ?_
          refine one_ (i := 9) (N := none) (fl 10 1023) rfl rfl (one_of HT_.out (by kernel_rfl)) (by decide) (fun K hK => ?_)
          refine opk W9 (by rfl) rfl (by go_simp) ?_
          refine hK.out _ _ (bc6 BK9.out) (fun hHeld => ?_)
          exact norm_ rfl (hc () W9 rfl)
        · refine opv (.tuple #[.int .i64 cv, goInt st]) W8 (by rfl) rfl (by go_simp) ?_
          refine hK.out _ _ (bc6 BK8.out) (fun hHeld => ?_)
          refine pu 8 (some 52) (fl 10 439) HT_ ?_
          refine one_ (i := 3) (N := some 47) (fl 10 447) rfl rfl (one_of HT_.out (by kernel_rfl)) (by decide) (fun K hK => ?_)
          refine opv (.int .i64 cv) W8 (by rfl) rfl (by go_simp) ?_
          refine hK.out _ _ (bc6 BK8.out) (fun hHeld => ?_)
          refine pu 6 (some 50) (fl 10 511) HT_ ?_
          refine one_ (i := 9) (N := none) (fl 10 1023) rfl rfl (one_of HT_.out (by kernel_rfl)) (by decide) (fun K hK => ?_)
          refine opk W9 (by rfl) rfl (by go_simp) ?_
          refine hK.out _ _ (bc6 BK9.out) (fun hHeld => ?_)
          exact norm_ rfl (hc () W9 rfl)
      case cont =>
        subst e
        refine done_ (done_of HT_.out (by kernel_rfl)) ?_
        simp only [putAll, Act.put, List.setIfInBounds_toArray, List.set_cons_zero, List.set_cons_succ]
        clear hHeld hme hl7 hl8 hst hc0 hc1 hc2 hc3 hc4 hc5
        obtain ⟨hc0, hc1, hc2, hc3, hc4, hc5⟩ := bc6 BK9.out
        obtain ⟨hkey, hat, hwc, O1, O2, m1, m2, Q⟩ := AM.out
        have hk9 : keyOf Try.prog 9 (.string x.f0.f0) = some (.string x.f0.f0.data.toList) := Go.WideMaps.keyOf_string_mk Try.underlying9 (HSTR.out x (by rw [HX.out]; exact rd28_mem (HI.out.1) (by simpa using hi)))
        have A1 := Aside0.mk (And.intro hkey (And.intro hat (And.intro hwc (And.intro O1 (And.intro m1 (And.intro m2 Q))))))
        clear hkey hat hwc O1 m1 m2 Q
        have HO2 := Aside0.mk O2
        have HK9 := Aside0.mk hk9
        have HN := Aside0.mk (show x40.toNat < maxLen from Nat.lt_of_lt_of_le (by have := HI.out; simp at hi; omega) HLEN.out)
        clear O2 hk9 AM
        go_wp2_with (first
          | (at_lookup; refine wpList_lookup_own_int _ rfl _ _ 53 rfl 9 2 .i64 law9 Try.underlying53 Try.underlying2 (zeroE2 _) (B + 1) _ _ rfl HO2.out _ _ rfl HK9.out ?_; intro c9 hat9 hwc9; have AT9 := Aside0.mk (And.intro hat9 hwc9); clear hat9 hwc9)
          | (at_mapUpdate; refine wpList_mapUpdate_own _ rfl _ _ _ 53 rfl 9 2 law9 Try.underlying53 _ (B + 1) _ _ rfl HO2.out HN.out _ _ _ rfl rfl HK9.out _ [] (plainElem_int Try.underlying2 (wrap64_wf _)) ?_; intro w10 own10 hg10; have A10 := Aside0.mk (And.intro own10 hg10); clear own10 hg10))
        have hlt : x40 < (l0.length : Int) := by simpa using hi
        have hI := HI.out
        have hx := HX.out
        have tk1 := take_snoc hI.1 hlt
        rw [← hx] at tk1
        have sm := HSM.out.take (x40 + 1).toNat
        rw [tk1] at sm
        have w1 : wrap64 (x40 + 1) = x40 + 1 := w64 (by omega) (by have := HSM.out.1; omega)
        have n1 : (x40 + 1).toNat = x40.toNat + 1 := by omega
        obtain ⟨hkey, hat, hwc, O1, m1, m2, Q⟩ := A1.out
        obtain ⟨o10, g10⟩ := A10.out
        obtain ⟨hat9, _⟩ := AT9.out
        go_roundg (gk - 1)
        case measure => omega
        case rel =>
          have b6 := asum_small 4503599627370496 _ sm.2
          have l6 := sm.1
          have e6 := asum_snoc x (l0.take x40.toNat)
          have w6 : wrap64 (s6 + x.f1) = s6 + x.f1 := w64 (by omega) (by omega)
          refine ⟨wrap64 (x40 + 1), wrap64 (s6 + x.f1), rfl, rfl, ?_, ?_, ?_, ?_⟩
          · rw [w1, w6, tk1, e6]
            exact ⟨⟨by omega, by omega, by omega⟩⟩
          · rw [w1, tk1, n1]
            exact ⟨⟨_, _, ⟨O1.kept g10 (by simp), M1_step IS.out.1 hkey m1 hat sm⟩, ⟨o10, M2_step IS.out.2 HK9.out m2 hat9 sm⟩⟩⟩
          · exact ⟨Kd.R_grown Q g10 (by intro j hj e; simp at e; omega)⟩
          · exact ⟨HB.out.grown g10 HB.out.size (fun j hj => by cases hj; have := HL.out; omega)⟩
    · have hib : decide (x40 < (l0.length : Int)) = false := decide_eq_false hi
      have hI := HI.out
      have hall : l0.take x40.toNat = l0 := List.take_of_length_le (by omega)
      have hs6 : s6 = asum l0 := by rw [hI.2.2, hall]
      obtain ⟨D1, D2, ⟨o1, m1⟩, ⟨o2, m2⟩⟩ := HM.out
      rw [hall] at m1 m2
      have O1 := Aside0.mk o1
      have MM := Aside0.mk (And.intro m1 m2)
      have O2 := Aside0.mk o2
      clear o1 o2 m1 m2 HM HI hI hall
      have HS6 := Aside0.mk hs6
      clear hs6 hi
      go_upto_region 18 with (fail)
      go_wp2_with (first | (at_range; refine wpList_range_own _ rfl _ 52 rfl 24 2 law24 Try.underlying52 _ B _ D1 rfl O1.out ?_; intro w11 hrg0 hg0 hs0; have RG := Aside0.mk (And.intro hrg0 (And.intro hg0 hs0)); clear hrg0 hg0 hs0))
      go_frame
      obtain ⟨r1, hr1⟩ : ∃ r1, r1 = wr.heap.size := ⟨_, rfl⟩
      obtain ⟨hrg0, hg0, hs0⟩ := RG.out
      rw [← hr1] at hrg0 ⊢
      have lt1 : B < r1 := by rw [hr1]; exact O1.out.lt
      have lt2 : B + 1 < r1 := by rw [hr1]; exact O2.out.lt
      have RG1 := Aside0.mk hrg0
      have O21 := Aside0.mk (O2.out.kept hg0 (by simp))
      have HQ1 := Aside0.mk (Kd.R_grown HQ.out hg0 (by intro j hj e; simp at e))
      have HB1 := Aside0.mk (show Below w.heap.size w w11 from HB.out.grown hg0 HB.out.size (fun j hj => by cases hj))
      have HR1 := Aside0.mk (And.intro lt1 (And.intro lt2 (show w.heap.size ≤ r1 by rw [hr1]; exact HB.out.size)))
      clear hrg0 hg0 hs0 lt1 lt2 hr1 RG O1 O2 HQ HB
      have HQ := HQ1
      have HB := HB1
      have O2 := O21
      clear HQ1 HB1 O21
      go_loopg [11] (Maps.size D1) (fun kq v11 wl => ∃ (left : Lit → Bool), Aside0 (wl.ranges Try.prog 24 eU B r1 x40.toNat D1 left kq) ∧ Aside0 (wl.ownsMap Try.prog 9 eU (B + 1) x40.toNat D2) ∧ Aside0 (Kd.R k55 55 wl w.heap.size (fun j => j < B) (.slice Ac c.length cc) c) ∧ Aside0 (Below w.heap.size w wl))
      case atStart => exact ⟨_, RG1, O2, HQ, HB⟩
      case round =>
        clear RG1 O2 HQ HB
        obtain ⟨left, RG, O2, HQ, HB⟩ := hrel
        go_upto_region 20 with (first
          | (at_next; refine wpList_next_keys _ rfl _ rfl B r1 _ D1 left gk rfl RG.out ?_ ?_)
          | (at_range; refine wpList_range_own _ rfl _ 53 rfl 9 2 law9 Try.underlying53 _ (B + 1) _ D2 rfl O2.out ?_; intro w20 hrg2 hg2 hs2; have RG2 := Aside0.mk (And.intro hrg2 (And.intro hg2 hs2)); clear hrg2 hg2 hs2))
        · go_frame
          obtain ⟨r2, hr2⟩ : ∃ r2, r2 = wr.heap.size := ⟨_, rfl⟩
          obtain ⟨hrg0, hg0, hs0⟩ := RG2.out
          rw [← hr2] at hrg0 ⊢
          have lt2 : B + 1 < r2 := by rw [hr2]; exact O2.out.lt
          have RG3 := Aside0.mk hrg0
          have HQ1 := Aside0.mk (Kd.R_grown HQ.out hg0 (by intro j hj e; simp at e))
          have HB1 := Aside0.mk (show Below w.heap.size w w20 from HB.out.grown hg0 HB.out.size (fun j hj => by cases hj))
          have HR2 := Aside0.mk (And.intro lt2 (show w.heap.size ≤ r2 by rw [hr2]; exact HB.out.size))
          have HS1 := Aside0.mk (show fact_Sum.f k c (⟨#[]⟩ : ByteArray) (⟨#[]⟩ : ByteArray) (⟨#[]⟩ : ByteArray) = some (s6, 0) by rw [HS6.out]; exact HS0.out)
          clear hrg0 hg0 hs0 lt2 hr2 RG2 O2 HQ HB RG
          have HQ := HQ1
          have HB := HB1
          clear HQ1 HB1
          go_loopg [12] (Maps.size D2) (fun kq v12 wl => ∃ (left : Lit → Bool), Aside0 (wl.ranges Try.prog 9 eU (B + 1) r2 x40.toNat D2 left kq) ∧ Aside0 (Kd.R k55 55 wl w.heap.size (fun j => j < B) (.slice Ac c.length cc) c) ∧ Aside0 (Below w.heap.size w wl))
          case atStart => exact ⟨_, RG3, HQ, HB⟩
          case round =>
            clear RG3 HQ HB
            obtain ⟨left, RG, HQ, HB⟩ := hrel
            go_upto_region 26 with (first
              | (at_next; refine wpList_next_strs _ rfl _ rfl (B + 1) r2 _ D2 left gk rfl RG.out ?_ ?_)
              | ((with_reducible refine gate_callee (f := 12) rfl ?_); refine goesL_ (some 104) rfl rfl Try.func12 (by kernel_rfl) rfl #[.slice Ac c.length cc, .string (⟨#[]⟩ : ByteArray), .string (⟨#[]⟩ : ByteArray), .string (⟨#[]⟩ : ByteArray)] rfl mp_ ?_; (with_reducible refine (fact_Sum.calls k _ _ c (⟨#[]⟩ : ByteArray) (⟨#[]⟩ : ByteArray) (⟨#[]⟩ : ByteArray) s6 0 _ (Kd.R_reads' HQ.out).2.2 (Kd.R_reads' HQ.out).2.1 HS1.out).mono ?_); rintro e w29 ⟨rfl, hb⟩; refine ⟨_, rfl, ?_⟩; have n0_ := Aside0.mk (below_step bw hb); clear HB; have HB := n0_; clear n0_ hb))
            · go_ret
              exact ⟨re_, bw⟩
            · intro x c9 kl w12 left' cnt' hkey hat hrg hlt hgr hen
              obtain ⟨ks, n9, hn9, hn0⟩ := HS.out x
              have hc9 : c9 = esum x l0 := (iU_inj ((MM.out.2 x kl hkey).symm.trans hat)).symm
              have HSx := Aside0.mk hn9
              have HQ3 := Aside0.mk (Kd.R_grown HQ.out hgr (by intro j hj e; simp at e; have := HR2.out; omega))
              have HB3 := Aside0.mk (show Below w.heap.size w w12 from HB.out.grown hgr HB.out.size (fun j hj => by cases hj; exact HR2.out.2))
              have RG3 := Aside0.mk hrg
              have HLT := Aside0.mk hlt
              have HN9 := Aside0.mk (And.intro hn0 hc9)
              clear hkey hat hrg hlt hgr hn9 hn0 hc9 RG HQ HB
              have RG := RG3
              have HQ := HQ3
              have HB := HB3
              clear RG3 HQ3 HB3
              by_cases hx0 : x.toList = ([] : List UInt8)
              · have hx1 : (x.toList != ([] : List UInt8)) = false := bne_eq_false_iff_eq.mpr hx0
                have HX0 := Aside0.mk hx0
                clear hx0
                go_wp2_with ((with_reducible refine gate_callee (f := 12) rfl ?_); refine goesL_ (some 88) rfl rfl Try.func12 (by kernel_rfl) rfl #[.slice Ac c.length cc, .string x, .string (⟨#[]⟩ : ByteArray), .string (⟨#[]⟩ : ByteArray)] rfl mp_ ?_; (with_reducible refine (fact_Sum.calls ks _ _ c x (⟨#[]⟩ : ByteArray) (⟨#[]⟩ : ByteArray) n9 0 _ (Kd.R_reads' HQ.out).2.2 (Kd.R_reads' HQ.out).2.1 HSx.out).mono ?_); rintro e w29 ⟨rfl, hb⟩; refine ⟨_, rfl, ?_⟩; have n0_ := Aside0.mk (below_step bw hb); have n1_ := Aside0.mk hb; clear HB; have HB := n0_; have HK := n1_; clear n0_ n1_ hb)
                all_goals first
                  | exact absurd HX0.out (by assumption)
                  | exact absurd (by assumption) HX0.out
                  | (go_roundg cnt'
                     case measure => exact HLT.out
                     case rel => exact ⟨left', ⟨rng_eq RG.out (HK.out.block _ RG.out.owns.lt) (HK.out.block _ RG.out.lt)⟩, ⟨Kd.R_below HQ.out HK.out⟩, HB⟩)
              · have hx1 : (x.toList != ([] : List UInt8)) = true := bne_iff_ne.mpr hx0
                have e9 : n9 = c9 := (HN9.out.1 hx0).trans HN9.out.2.symm
                subst e9
                have HX0 := Aside0.mk hx0
                clear hx0
                go_wp2_with ((with_reducible refine gate_callee (f := 12) rfl ?_); refine goesL_ (some 88) rfl rfl Try.func12 (by kernel_rfl) rfl #[.slice Ac c.length cc, .string x, .string (⟨#[]⟩ : ByteArray), .string (⟨#[]⟩ : ByteArray)] rfl mp_ ?_; (with_reducible refine (fact_Sum.calls ks _ _ c x (⟨#[]⟩ : ByteArray) (⟨#[]⟩ : ByteArray) n9 0 _ (Kd.R_reads' HQ.out).2.2 (Kd.R_reads' HQ.out).2.1 HSx.out).mono ?_); rintro e w29 ⟨rfl, hb⟩; refine ⟨_, rfl, ?_⟩; have n0_ := Aside0.mk (below_step bw hb); have n1_ := Aside0.mk hb; clear HB; have HB := n0_; have HK := n1_; clear n0_ n1_ hb)
                all_goals first
                  | exact absurd HX0.out (by assumption)
                  | exact absurd (by assumption) HX0.out
                  | (go_roundg cnt'
                     case measure => exact HLT.out
                     case rel => exact ⟨left', ⟨rng_eq RG.out (HK.out.block _ RG.out.owns.lt) (HK.out.block _ RG.out.lt)⟩, ⟨Kd.R_below HQ.out HK.out⟩, HB⟩)
        · intro x c9 kl w12 left' cnt' hkey hat hrg hlt hgr hen
          obtain ⟨kg, hkg⟩ := HG.out x
          have hget : fact_Get.f kg c x.f0 x.f1 x.f2 x.f3 x.f4 = some c9 := by
            rw [hkg]
            exact congrArg some (iU_inj ((MM.out.1 x kl hkey).symm.trans hat))
          have HGx := Aside0.mk hget
          have O3 := Aside0.mk (O2.out.kept hgr (by simp; have := HR1.out; omega))
          have HQ3 := Aside0.mk (Kd.R_grown HQ.out hgr (by intro j hj e; simp at e; have := HR1.out; omega))
          have HB3 := Aside0.mk (show Below w.heap.size w w12 from HB.out.grown hgr HB.out.size (fun j hj => by cases hj; exact HR1.out.2.2))
          have RG3 := Aside0.mk hrg
          have HLT := Aside0.mk hlt
          clear hkey hat hrg hlt hgr hget hkg RG O2 HQ HB
          have RG := RG3
          have O2 := O3
          have HQ := HQ3
          have HB := HB3
          clear RG3 O3 HQ3 HB3
          go_wp2_with (first
            | ((with_reducible refine gate_dst (N := 10) rfl ?_); refine box_event ?hg (N := 10) ?hd (cs := #[.string (⟨#[]⟩ : ByteArray), .string (⟨#[]⟩ : ByteArray), .string (⟨#[]⟩ : ByteArray), .string (⟨#[]⟩ : ByteArray), .int .i64 0]) (t := 24) ?hr ?_; (case hd => rfl); (case hg => rfl); (case hr => first | (go_simp; done) | (go_simp; rfl)); intro gb hg w13 hbox hb; have n0_ := Aside0.mk (below_step bw hb); have n2_ := Aside0.mk hbox; have n3_ := Aside0.mk hg; have n4_ := Aside0.mk hb; have n5_ := Aside0.mk ((by rw [hg]; exact (below_size bw) : w.heap.size ≤ gb)); have n6_ := Aside0.mk (Kd.R_below HQ.out hb); have n7_ := Aside0.mk (show r1 < gb by rw [hg]; exact RG.out.lt); clear HB; have HB := n0_; have BK := n2_; have GG := n3_; have HN := n4_; have GE := n5_; have HQ3 := n6_; have LG := n7_; clear n0_ n2_ n3_ n4_ n5_ n6_ n7_; clear hb hbox hg; obtain ⟨hcz0, hcz1, hcz2, hcz3, hcz4⟩ := bc5 BK.out; have hfz0 := blk_frozen BK.out 0; have hfz1 := blk_frozen BK.out 1; have hfz2 := blk_frozen BK.out 2; have hfz3 := blk_frozen BK.out 3; have hfz4 := blk_frozen BK.out 4)
            | ((with_reducible refine gate_callee (f := 16) rfl ?_); refine goesL_ (some 75) rfl rfl Try.func16 (by kernel_rfl) rfl #[.slice Ac c.length cc, .agg #[.string x.f0, .string x.f1, .string x.f2, .string x.f3, .int .i64 x.f4]] rfl mp_ ?_; (with_reducible refine (fact_Get.calls kg _ _ c x.f0 x.f1 x.f2 x.f3 x.f4 c9 _ ?side1 ?side2 HGx.out).mono ?_); (case side1 => exact (Kd.R_reads' (rf24 gb x HQ3.out (fun j hj => by have := HR1.out; have := LG.out; omega))).2.2); (case side2 => exact (Kd.R_reads' HQ3.out).2.1); rintro e w14 ⟨rfl, hb⟩; refine ⟨_, rfl, ?_⟩; have n0_ := Aside0.mk (below_step bx hb); have n1_ := Aside0.mk (sets24_keep GG.out HN.out hb); clear HB; have HB := n0_; have HK := n1_; clear n0_ n1_; clear hb))
          go_roundg cnt'
          case measure => exact HLT.out
          case rel =>
            have hr := HR1.out
            have hg := LG.out
            have hk := HK.out
            exact ⟨left', ⟨rng_eq RG.out (hk _ (by omega)) (hk _ (by omega))⟩, ⟨own_eq O2.out (hk _ (by omega))⟩, ⟨Kd.R_move HQ.out fun j hj => hk j (by omega)⟩, HB⟩
end Go.Proofs.Ytdckeflggcefbaa.Y
namespace Go.Proofs.Ytdckeflggcefbaa.Y
open Go.RowKit Go.Proofs.YtdckeflggcefbaaW.PrintWords Go.Proofs.YtdckeflggcefbaaW.PrintLast Go.Proofs.YtdckeflggcefbaaW.PrintMore
set_option linter.unusedVariables false
set_option linter.unusedSimpArgs false
theorem midw (i j : Nat) (h : i + j ≤ 4000000000000000000) : wrap64 ((IntKind.u64.wrap (wrap64 ((i : Int) + (j : Int)))) / 2) = (((i + j) / 2 : Nat) : Int) := by
  rw [w64 (n := (i : Int) + j) (by omega) (by omega), wu64 (by omega) (by omega), w64 (by omega) (by omega)]
  omega
/-- A search that halves: the first place from which on the answer is no. -/
theorem bsearch {α : Type} (F : Nat → Int → Int → Option α) (G : Nat → Int → Option α) (pr : Nat → Prop) [DecidablePred pr] (lo hi : Nat)
    (hend : ∀ (k i : Nat), lo ≤ i → i ≤ hi → F (k + 1) i i = G k i)
    (hstep : ∀ (i j : Nat), lo ≤ i → i < j → j ≤ hi → ∀ r, (if pr ((i + j) / 2) then Ev (fun k => F k (((i + j) / 2 + 1 : Nat) : Int) j) r else Ev (fun k => F k i (((i + j) / 2 : Nat) : Int)) r) → Ev (fun k => F k i j) r) :
    ∀ (n i j : Nat), j - i ≤ n → lo ≤ i → i ≤ j → j ≤ hi → ∃ s, i ≤ s ∧ s ≤ j ∧ (i < s → pr (s - 1)) ∧ (s < j → ¬ pr s) ∧ ∀ r, Ev (fun k => G k s) r → Ev (fun k => F k i j) r
  | n, i, j, hn, h1, h2, h3 => by
    by_cases hij : i = j
    · subst hij
      exact ⟨i, Nat.le_refl _, Nat.le_refl _, fun h => absurd h (Nat.lt_irrefl _), fun h => absurd h (Nat.lt_irrefl _), fun r h => Ev.step h fun k => hend k i h1 h3⟩
    · cases n with
      | zero => omega
      | succ n =>
        by_cases hp : pr ((i + j) / 2)
        · obtain ⟨s, g1, g2, g3, g4, g5⟩ := bsearch F G pr lo hi hend hstep n ((i + j) / 2 + 1) j (by omega) (by omega) (by omega) h3
          refine ⟨s, by omega, g2, fun h => ?_, g4, fun r h => hstep i j h1 (by omega) h3 r (by rw [if_pos hp]; exact g5 r h)⟩
          by_cases e : s = (i + j) / 2 + 1
          · rw [e]; exact hp
          · exact g3 (by omega)
        · obtain ⟨s, g1, g2, g3, g4, g5⟩ := bsearch F G pr lo hi hend hstep n i ((i + j) / 2) (by omega) h1 (by omega) (by omega)
          refine ⟨s, g1, by omega, g3, fun h => ?_, fun r h => hstep i j h1 (by omega) h3 r (by rw [if_neg hp]; exact g5 r h)⟩
          by_cases e : s = (i + j) / 2
          · rw [e]; exact hp
          · exact g4 (by omega)
theorem snoc_of_pos {l : List S55} (h : 0 < l.length) : ∃ l' z, l = l' ++ [z] :=
  ⟨l.dropLast, l.getLast (by intro e; simp [e] at h), (List.dropLast_concat_getLast _).symm⟩
theorem cons_of_pos {l : List S55} (h : 0 < l.length) : ∃ z l', l = z :: l' := by
  cases l with
  | nil => simp at h
  | cons z l' => exact ⟨z, l', rfl⟩
theorem part_at (l : List S55) (n : Nat) (h : n ≤ l.length) : ∃ l1 l2, l = l1 ++ l2 ∧ l1.length = n := ⟨l.take n, l.drop n, (List.take_append_drop _ _).symm, by simp; omega⟩
theorem first_le {A0 : List S55} {z : S55} (h : Srt (z :: A0)) : ∀ q ∈ z :: A0, cmpS z q ≤ 0 := by
  intro q hq
  rcases List.mem_cons.1 hq with rfl | hq
  · exact Int.le_of_eq (cmpS_good.refl _)
  · exact (List.pairwise_cons.1 h).1 q hq

/-! ### one fact and a sorted stretch -/
theorem l48_1_ev : ∀ (B1 : List S55) (x : S55) (P Q : List S55) (s q : Int), Sm (P ++ (x :: (B1 ++ Q))).length → q = P.length → s - 1 = P.length + B1.length →
    Ev (fun k => fact_Fact_48.l1 k (P ++ (x :: (B1 ++ Q))) s q) (P ++ (B1 ++ x :: Q))
  | [], x, P, Q, s, q, hs, hq, hi => by
    have hs' : P.length + Q.length + 1 ≤ 1000000000000000000 := by unfold Sm at hs; simp at hs; omega
    refine Ev.some fun k => ?_
    simp only [fact_Fact_48.l1]
    rw [w64 (n := s - 1) (by simp at hi; omega) (by simp at hi; omega), if_neg (by simp at hi; omega)]
    simp
  | y :: B1, x, P, Q, s, q, hs, hq, hi => by
    have hs' : P.length + B1.length + Q.length + 2 ≤ 1000000000000000000 := by unfold Sm at hs; simp at hs; omega
    have hlen : (P ++ (x :: ((y :: B1) ++ Q))).length = P.length + B1.length + Q.length + 2 := by simp; omega
    simp only [List.length_cons] at hi
    have ih := l48_1_ev B1 x (P ++ [y]) Q s (q + 1) (by unfold Sm; simp; omega) (by simp; omega) (by simp; omega)
    rw [show P ++ ((y :: B1) ++ x :: Q) = (P ++ [y]) ++ (B1 ++ x :: Q) by simp]
    refine Ev.step ih fun k => ?_
    show fact_Fact_48.l1 (k + 1) _ _ _ = _
    have e1 : P ++ (x :: ((y :: B1) ++ Q)) = P ++ (x :: ([] ++ y :: (B1 ++ Q))) := by simp
    have e2 : P ++ (x :: ((y :: B1) ++ Q)) = (P ++ [x]) ++ (y :: (B1 ++ Q)) := by simp
    have r1 : rd_T55 (P ++ (x :: ((y :: B1) ++ Q))) q = x := by rw [e1]; exact rd_app _ _ _ _ hq
    have r2 : rd_T55 (P ++ (x :: ((y :: B1) ++ Q))) (q + 1) = y := by rw [e2]; exact rd_app _ _ _ _ (by simp; omega)
    simp only [fact_Fact_48.l1]
    rw [w64 (n := s - 1) (by omega) (by omega), w64 (n := q + 1) (by omega) (by omega), if_pos (by omega), if_pos (by omega), if_pos (by rw [hlen]; omega), if_pos (by omega), if_pos (by rw [hlen]; omega)]
    simp only [r1, r2]
    show fact_Fact_48.l1 k (((P ++ (x :: ((y :: B1) ++ Q))).set q.toNat y).set (q + 1).toNat x) s (q + 1) = _
    rw [e1, swap_app P [] (B1 ++ Q) x y q (q + 1) hq (by simp; omega)]
    congr 1
    simp
theorem l48_3_ev : ∀ (n : Nat) (A2 : List S55) (y : S55) (P Q : List S55) (s q : Int), A2.length = n → Sm (P ++ (A2 ++ y :: Q)).length → s = P.length → q = P.length + A2.length →
    Ev (fun k => fact_Fact_48.l3 k (P ++ (A2 ++ y :: Q)) s q) (P ++ (y :: (A2 ++ Q)))
  | 0, A2, y, P, Q, s, q, hn, hs, hq, hi => by
    obtain rfl := List.length_eq_zero_iff.1 hn
    refine Ev.some fun k => ?_
    simp only [fact_Fact_48.l3]
    rw [if_neg (by simp at hi; omega)]
    simp
  | n + 1, A2, y, P, Q, s, q, hn, hs, hq, hi => by
    obtain ⟨A', z, rfl⟩ := snoc_of_pos (l := A2) (by omega)
    have hn' : A'.length = n := by simpa using hn
    have hs' : P.length + A'.length + Q.length + 2 ≤ 1000000000000000000 := by unfold Sm at hs; simp at hs; omega
    have hlen : (P ++ ((A' ++ [z]) ++ y :: Q)).length = P.length + A'.length + Q.length + 2 := by simp; omega
    have hi' : q = P.length + A'.length + 1 := by simp at hi; omega
    have ih := l48_3_ev n A' y P (z :: Q) s (q - 1) hn' (by unfold Sm; simp; omega) hq (by omega)
    rw [show P ++ (y :: ((A' ++ [z]) ++ Q)) = P ++ (y :: (A' ++ z :: Q)) by simp]
    refine Ev.step ih fun k => ?_
    show fact_Fact_48.l3 (k + 1) _ _ _ = _
    have e1 : P ++ ((A' ++ [z]) ++ y :: Q) = (P ++ A') ++ (z :: ([] ++ y :: Q)) := by simp
    have e2 : P ++ ((A' ++ [z]) ++ y :: Q) = (P ++ (A' ++ [z])) ++ (y :: Q) := by simp
    have r1 : rd_T55 (P ++ ((A' ++ [z]) ++ y :: Q)) q = y := by rw [e2]; exact rd_app _ _ _ _ (by simp; omega)
    have r2 : rd_T55 (P ++ ((A' ++ [z]) ++ y :: Q)) (q - 1) = z := by rw [e1]; exact rd_app _ _ _ _ (by simp; omega)
    simp only [fact_Fact_48.l3]
    rw [w64 (n := q - 1) (by omega) (by omega), if_pos (by omega), if_pos (by omega), if_pos (by rw [hlen]; omega), if_pos (by omega), if_pos (by rw [hlen]; omega)]
    simp only [r1, r2]
    show fact_Fact_48.l3 k (((P ++ ((A' ++ [z]) ++ y :: Q)).set q.toNat z).set (q - 1).toNat y) s (q - 1) = _
    rw [e1, swap_app' (P ++ A') [] Q z y (q - 1) q (by simp; omega) (by simp; omega)]
    congr 1
    simp
theorem sA_ev (x : S55) (B P Q : List S55) (a m b : Nat) (hB : Srt B) (hs : Sm (P ++ (x :: (B ++ Q))).length) (ha : a = P.length) (hm : m = a + 1) (hb : b = m + B.length) :
    ∃ B1 B2, B = B1 ++ B2 ∧ (∀ z ∈ B1, cmpS z x < 0) ∧ (∀ z ∈ B2, cmpS x z ≤ 0) ∧ Ev (fun k => fact_Fact_48.l0 k (P ++ (x :: (B ++ Q))) a m b) (P ++ (B1 ++ x :: (B2 ++ Q))) := by
  have hs' : P.length + B.length + Q.length + 1 ≤ 1000000000000000000 := by unfold Sm at hs; simp at hs; omega
  have hlen : (P ++ (x :: (B ++ Q))).length = P.length + B.length + Q.length + 1 := by simp; omega
  obtain ⟨xs, hxs⟩ : ∃ xs, P ++ (x :: (B ++ Q)) = xs := ⟨_, rfl⟩
  have rx : rd_T55 xs (a : Int) = x := by rw [← hxs]; exact rd_app _ _ _ _ (by omega)
  rw [hxs] at hlen ⊢
  obtain ⟨s, g1, g2, g3, g4, g5⟩ := bsearch (fun k i j => fact_Fact_48.l0 k xs a i j) (fun k s => fact_Fact_48.l1 k xs s a) (fun h => cmpS (rd_T55 xs (h : Int)) x < 0) m b
    (fun k i h1 h2 => by
      show fact_Fact_48.l0 (k + 1) _ _ _ _ = _
      simp only [fact_Fact_48.l0]; rw [if_neg (by omega)])
    (fun i j h1 h2 h3 r h => by
      refine Ev.step (Ev.bind (g := fun k t => if t < 0 then fact_Fact_48.l0 k xs a (((i + j) / 2 + 1 : Nat) : Int) j else fact_Fact_48.l0 k xs a i (((i + j) / 2 : Nat) : Int)) (of1_ev (rd_T55 xs (((i + j) / 2 : Nat) : Int)) (rd_T55 xs (a : Int))) ?_) fun k => ?_
      · rw [rx]
        by_cases hc : cmpS (rd_T55 xs (((i + j) / 2 : Nat) : Int)) x < 0
        · simp only [if_pos hc] at h ⊢; exact h
        · simp only [if_neg hc] at h ⊢; exact h
      · show fact_Fact_48.l0 (k + 1) _ _ _ _ = _
        simp only [fact_Fact_48.l0]
        rw [midw i j (by omega), if_pos (by omega), if_pos (by omega), if_pos (by rw [hlen]; omega), if_pos (by omega), if_pos (by rw [hlen]; omega), w64 (n := (((i + j) / 2 : Nat) : Int) + 1) (by omega) (by omega)]
        rfl) (b - m) m b (Nat.le_refl _) (Nat.le_refl _) (by omega) (Nat.le_refl _)
  obtain ⟨B1, B2, rfl, h1⟩ := part_at B (s - m) (by omega)
  have hl2 : (B1 ++ B2).length = B1.length + B2.length := by simp
  refine ⟨B1, B2, rfl, ?_, ?_, g5 _ ?_⟩
  · intro z hz
    obtain ⟨B0, v, rfl⟩ := snoc_of_pos (l := B1) (List.length_pos_of_mem hz)
    have hv : cmpS v x < 0 := by
      have := g3 (by simp at h1; omega)
      rwa [show rd_T55 xs ((s - 1 : Nat) : Int) = v by
        rw [← hxs, show P ++ (x :: (((B0 ++ [v]) ++ B2) ++ Q)) = (P ++ (x :: B0)) ++ (v :: (B2 ++ Q)) by simp]
        exact rd_app _ _ _ _ (by simp at h1 ⊢; omega)] at this
    exact le_lt (last_le hB.left z hz) hv
  · intro z hz
    obtain ⟨v, B0, rfl⟩ := cons_of_pos (l := B2) (List.length_pos_of_mem hz)
    have hv : ¬ cmpS v x < 0 := by
      have := g4 (by simp at hb; omega)
      rwa [show rd_T55 xs (s : Int) = v by
        rw [← hxs, show P ++ (x :: ((B1 ++ (v :: B0)) ++ Q)) = (P ++ (x :: B1)) ++ (v :: (B0 ++ Q)) by simp]
        exact rd_app _ _ _ _ (by simp; omega)] at this
    exact cmpS_good.trans _ _ _ (le_of_not_lt hv) (first_le hB.right z hz)
  · rw [← hxs, show P ++ (x :: ((B1 ++ B2) ++ Q)) = P ++ (x :: (B1 ++ (B2 ++ Q))) by simp]
    exact l48_1_ev B1 x P (B2 ++ Q) s a (by unfold Sm; simp; omega) (by omega) (by omega)
theorem sB_ev (y : S55) (A P Q : List S55) (a m : Nat) (hA : Srt A) (hs : Sm (P ++ (A ++ y :: Q)).length) (ha : a = P.length) (hm : m = a + A.length) :
    ∃ A1 A2, A = A1 ++ A2 ∧ (∀ z ∈ A1, cmpS z y ≤ 0) ∧ (∀ z ∈ A2, cmpS y z < 0) ∧ Ev (fun k => fact_Fact_48.l2 k (P ++ (A ++ y :: Q)) m a m) (P ++ (A1 ++ y :: (A2 ++ Q))) := by
  have hs' : P.length + A.length + Q.length + 1 ≤ 1000000000000000000 := by unfold Sm at hs; simp at hs; omega
  have hlen : (P ++ (A ++ y :: Q)).length = P.length + A.length + Q.length + 1 := by simp; omega
  obtain ⟨xs, hxs⟩ : ∃ xs, P ++ (A ++ y :: Q) = xs := ⟨_, rfl⟩
  have rx : rd_T55 xs (m : Int) = y := by rw [← hxs, ← List.append_assoc]; exact rd_app _ _ _ _ (by simp; omega)
  rw [hxs] at hlen ⊢
  obtain ⟨s, g1, g2, g3, g4, g5⟩ := bsearch (fun k i j => fact_Fact_48.l2 k xs m i j) (fun k s => fact_Fact_48.l3 k xs s m) (fun h => ¬ cmpS y (rd_T55 xs (h : Int)) < 0) a m
    (fun k i h1 h2 => by
      show fact_Fact_48.l2 (k + 1) _ _ _ _ = _
      simp only [fact_Fact_48.l2]; rw [if_neg (by omega)])
    (fun i j h1 h2 h3 r h => by
      refine Ev.step (Ev.bind (g := fun k t => if t < 0 then fact_Fact_48.l2 k xs m i (((i + j) / 2 : Nat) : Int) else fact_Fact_48.l2 k xs m (((i + j) / 2 + 1 : Nat) : Int) j) (of1_ev (rd_T55 xs (m : Int)) (rd_T55 xs (((i + j) / 2 : Nat) : Int))) ?_) fun k => ?_
      · rw [rx]
        by_cases hc : cmpS y (rd_T55 xs (((i + j) / 2 : Nat) : Int)) < 0
        · rw [if_neg (by simpa using hc)] at h; simp only [if_pos hc]; exact h
        · rw [if_pos hc] at h; simp only [if_neg hc]; exact h
      · show fact_Fact_48.l2 (k + 1) _ _ _ _ = _
        simp only [fact_Fact_48.l2]
        rw [midw i j (by omega), if_pos (by omega), if_pos (by omega), if_pos (by rw [hlen]; omega), if_pos (by omega), if_pos (by rw [hlen]; omega), w64 (n := (((i + j) / 2 : Nat) : Int) + 1) (by omega) (by omega)]
        rfl) (m - a) a m (Nat.le_refl _) (Nat.le_refl _) (by omega) (Nat.le_refl _)
  obtain ⟨A1, A2, rfl, h1⟩ := part_at A (s - a) (by omega)
  have hl2 : (A1 ++ A2).length = A1.length + A2.length := by simp
  refine ⟨A1, A2, rfl, ?_, ?_, g5 _ ?_⟩
  · intro z hz
    obtain ⟨B0, v, rfl⟩ := snoc_of_pos (l := A1) (List.length_pos_of_mem hz)
    have hv : ¬ cmpS y v < 0 := by
      have := g3 (by simp at h1; omega)
      rwa [show rd_T55 xs ((s - 1 : Nat) : Int) = v by
        rw [← hxs, show P ++ (((B0 ++ [v]) ++ A2) ++ y :: Q) = (P ++ B0) ++ (v :: (A2 ++ y :: Q)) by simp]
        exact rd_app _ _ _ _ (by simp at h1 ⊢; omega)] at this
    exact cmpS_good.trans _ _ _ (last_le hA.left z hz) (le_of_not_lt hv)
  · intro z hz
    obtain ⟨v, B0, rfl⟩ := cons_of_pos (l := A2) (List.length_pos_of_mem hz)
    have hv : cmpS y v < 0 := by
      have := g4 (by simp at hm; omega)
      rw [show rd_T55 xs (s : Int) = v by
        rw [← hxs, show P ++ ((A1 ++ (v :: B0)) ++ y :: Q) = (P ++ A1) ++ (v :: (B0 ++ y :: Q)) by simp]
        exact rd_app _ _ _ _ (by simp; omega)] at this
      exact Decidable.not_not.1 this
    exact lt_le hv (first_le hA.right z hz)
  · rw [← hxs, show P ++ ((A1 ++ A2) ++ y :: Q) = (P ++ A1) ++ (A2 ++ y :: Q) by simp, show P ++ (A1 ++ y :: (A2 ++ Q)) = (P ++ A1) ++ (y :: (A2 ++ Q)) by simp]
    exact l48_3_ev _ A2 y (P ++ A1) Q s m rfl (by unfold Sm; simp; omega) (by simp; omega) (by simp; omega)
theorem cross_lt {A2 B1 : List S55} (hA : Srt A2) (hB : Srt B1) (h : ∀ u A' B' v, A2 = u :: A' → B1 = B' ++ [v] → cmpS v u < 0) : ∀ y ∈ A2, ∀ x ∈ B1, cmpS x y < 0 := by
  intro y hy x hx
  obtain ⟨u, A', rfl⟩ := cons_of_pos (List.length_pos_of_mem hy)
  obtain ⟨B', v, rfl⟩ := snoc_of_pos (List.length_pos_of_mem hx)
  exact le_lt (last_le hB x hx) (lt_le (h u A' B' v rfl rfl) (first_le hA y hy))
theorem cross_le {A1 B2 : List S55} (hA : Srt A1) (hB : Srt B2) (h : ∀ A' u v B', A1 = A' ++ [u] → B2 = v :: B' → ¬ cmpS v u < 0) : ∀ x ∈ A1, ∀ y ∈ B2, cmpS x y ≤ 0 := by
  intro x hx y hy
  obtain ⟨A', u, rfl⟩ := snoc_of_pos (List.length_pos_of_mem hx)
  obtain ⟨v, B', rfl⟩ := cons_of_pos (List.length_pos_of_mem hy)
  exact cmpS_good.trans _ _ _ (last_le hA x hx) (cmpS_good.trans _ _ _ (le_of_not_lt (h A' u v B' rfl rfl)) (first_le hB y hy))
/-- Where the search of two stretches ends. -/
theorem sC_find (A B P Q : List S55) (a m b mid lo hi : Nat) (hA : Srt A) (hB : Srt B) (hs : Sm (P ++ (A ++ (B ++ Q))).length) (ha : a = P.length) (hm : m = a + A.length) (hb : b = m + B.length) (hmid : mid = (a + b) / 2)
    (hlo : a < m ∧ m < b ∧ ((mid < m ∧ lo = mid + m - b ∧ hi = mid) ∨ (m ≤ mid ∧ lo = a ∧ hi = m))) (hA2 : 2 ≤ A.length) (hB2 : 2 ≤ B.length) :
    ∃ s, lo ≤ s ∧ s ≤ hi ∧ (∃ A1 A2 B1 B2, A = A1 ++ A2 ∧ B = B1 ++ B2 ∧ A1.length = s - a ∧ B1.length = mid - s ∧ (∀ y ∈ A2, ∀ x ∈ B1, cmpS x y < 0) ∧ (∀ x ∈ A1, ∀ y ∈ B2, cmpS x y ≤ 0)) ∧
      ∀ r, Ev (fun k => if (s : Int) < m then fact_Fact_48.j6 k (P ++ (A ++ (B ++ Q))) a m b mid s ((mid + m - s : Nat) : Int) (decide ((m : Int) < ((mid + m - s : Nat) : Int))) else fact_Fact_48.j6 k (P ++ (A ++ (B ++ Q))) a m b mid s ((mid + m - s : Nat) : Int) false) r →
        Ev (fun k => fact_Fact_48.l4 k (P ++ (A ++ (B ++ Q))) a m b mid ((mid + m : Nat) : Int) lo hi ((mid + m - 1 : Nat) : Int)) r := by
  have hs' : P.length + A.length + B.length + Q.length ≤ 1000000000000000000 := by unfold Sm at hs; simp at hs; omega
  have hlen : (P ++ (A ++ (B ++ Q))).length = P.length + A.length + B.length + Q.length := by simp; omega
  obtain ⟨xs, hxs⟩ : ∃ xs, P ++ (A ++ (B ++ Q)) = xs := ⟨_, rfl⟩
  rw [hxs] at hlen ⊢
  have hw : a ≤ lo ∧ lo ≤ hi ∧ hi ≤ m ∧ mid + m ≤ b + lo ∧ hi ≤ mid := by omega
  obtain ⟨s, g1, g2, g3, g4, g5⟩ := bsearch (fun k i j => fact_Fact_48.l4 k xs a m b mid ((mid + m : Nat) : Int) i j ((mid + m - 1 : Nat) : Int))
    (fun k s => if s < (m : Int) then fact_Fact_48.j6 k xs a m b mid s (wrap64 (((mid + m : Nat) : Int) - s)) (decide ((m : Int) < wrap64 (((mid + m : Nat) : Int) - s))) else fact_Fact_48.j6 k xs a m b mid s (wrap64 (((mid + m : Nat) : Int) - s)) false)
    (fun c => ¬ cmpS (rd_T55 xs ((mid + m - 1 - c : Nat) : Int)) (rd_T55 xs (c : Int)) < 0) lo hi
    (fun k i h1 h2 => by
      show fact_Fact_48.l4 (k + 1) _ _ _ _ _ _ _ _ _ = _
      simp only [fact_Fact_48.l4]; rw [if_neg (by omega)])
    (fun i j h1 h2 h3 r h => by
      have ew : wrap64 (((mid + m - 1 : Nat) : Int) - (((i + j) / 2 : Nat) : Int)) = ((mid + m - 1 - (i + j) / 2 : Nat) : Int) := by rw [w64 (by omega) (by omega)]; omega
      refine Ev.step (Ev.bind (g := fun k t => if t < 0 then fact_Fact_48.l4 k xs a m b mid ((mid + m : Nat) : Int) i (((i + j) / 2 : Nat) : Int) ((mid + m - 1 : Nat) : Int) else fact_Fact_48.l4 k xs a m b mid ((mid + m : Nat) : Int) (((i + j) / 2 + 1 : Nat) : Int) j ((mid + m - 1 : Nat) : Int)) (of1_ev (rd_T55 xs ((mid + m - 1 - (i + j) / 2 : Nat) : Int)) (rd_T55 xs (((i + j) / 2 : Nat) : Int))) ?_) fun k => ?_
      · by_cases hc : cmpS (rd_T55 xs ((mid + m - 1 - (i + j) / 2 : Nat) : Int)) (rd_T55 xs (((i + j) / 2 : Nat) : Int)) < 0
        · rw [if_neg (by simpa using hc)] at h; simp only [if_pos hc]; exact h
        · rw [if_pos hc] at h; simp only [if_neg hc]; exact h
      · show fact_Fact_48.l4 (k + 1) _ _ _ _ _ _ _ _ _ = _
        simp only [fact_Fact_48.l4]
        rw [midw i j (by omega), ew, if_pos (by omega), if_pos (by omega), if_pos (by rw [hlen]; omega), if_pos (by omega), if_pos (by rw [hlen]; omega), w64 (n := (((i + j) / 2 : Nat) : Int) + 1) (by omega) (by omega)]
        rfl) (hi - lo) lo hi (Nat.le_refl _) (Nat.le_refl _) (by omega) (Nat.le_refl _)
  refine ⟨s, g1, g2, ?_, fun r h => g5 r ?_⟩
  · obtain ⟨A1, A2, rfl, h1⟩ := part_at A (s - a) (by omega)
    obtain ⟨B1, B2, rfl, h2⟩ := part_at B (mid - s) (by omega)
    have hlA : (A1 ++ A2).length = A1.length + A2.length := by simp
    have hlB : (B1 ++ B2).length = B1.length + B2.length := by simp
    refine ⟨A1, A2, B1, B2, rfl, rfl, h1, h2, cross_lt hA.right hB.left ?_, cross_le hA.left hB.right ?_⟩
    · rintro u A' B' v rfl rfl
      simp only [List.length_append, List.length_cons, List.length_nil] at h1 h2 hlA hlB hm hb hlen
      have hsr : s < hi := by omega
      have := g4 hsr
      rw [show rd_T55 xs ((mid + m - 1 - s : Nat) : Int) = v by
          rw [← hxs, show P ++ ((A1 ++ (u :: A')) ++ (((B' ++ [v]) ++ B2) ++ Q)) = (P ++ ((A1 ++ (u :: A')) ++ B')) ++ (v :: (B2 ++ Q)) by simp]
          exact rd_app _ _ _ _ (by simp; omega),
        show rd_T55 xs (s : Int) = u by
          rw [← hxs, show P ++ ((A1 ++ (u :: A')) ++ (((B' ++ [v]) ++ B2) ++ Q)) = (P ++ A1) ++ (u :: (A' ++ (((B' ++ [v]) ++ B2) ++ Q))) by simp]
          exact rd_app _ _ _ _ (by simp; omega)] at this
      exact Decidable.not_not.1 this
    · rintro A' u v B' rfl rfl
      simp only [List.length_append, List.length_cons, List.length_nil] at h1 h2 hlA hlB hm hb hlen
      have hsr : lo < s := by omega
      have := g3 hsr
      rw [show rd_T55 xs ((mid + m - 1 - (s - 1) : Nat) : Int) = v by
          rw [← hxs, show P ++ (((A' ++ [u]) ++ A2) ++ ((B1 ++ (v :: B')) ++ Q)) = (P ++ (((A' ++ [u]) ++ A2) ++ B1)) ++ (v :: (B' ++ Q)) by simp]
          exact rd_app _ _ _ _ (by simp; omega),
        show rd_T55 xs ((s - 1 : Nat) : Int) = u by
          rw [← hxs, show P ++ (((A' ++ [u]) ++ A2) ++ ((B1 ++ (v :: B')) ++ Q)) = (P ++ A') ++ (u :: (A2 ++ ((B1 ++ (v :: B')) ++ Q))) by simp]
          exact rd_app _ _ _ _ (by simp; omega)] at this
      exact this
  · have ew : wrap64 (((mid + m : Nat) : Int) - (s : Int)) = ((mid + m - s : Nat) : Int) := by rw [w64 (by omega) (by omega)]; omega
    simp only [ew]
    exact h
theorem f48_one (A B P Q : List S55) (a m b : Nat) (hA : Srt A) (hB : Srt B) (hA0 : 0 < A.length) (hB0 : 0 < B.length) (hs : Sm (P ++ (A ++ (B ++ Q))).length) (ha : a = P.length) (hm : m = a + A.length) (hb : b = m + B.length) (c1 : A.length = 1) :
    ∃ C, SS (A ++ B) C ∧ C.length = A.length + B.length ∧ Ev (fun k => fact_Fact_48.f k (P ++ (A ++ (B ++ Q))) a m b) (P ++ (C ++ Q)) := by
  have hs' : P.length + A.length + B.length + Q.length ≤ 1000000000000000000 := by unfold Sm at hs; simp at hs; omega
  have w1 : wrap64 ((m : Int) - a) = (m : Int) - a := w64 (by omega) (by omega)
  have w2 : wrap64 ((b : Int) - m) = (b : Int) - m := w64 (by omega) (by omega)
  obtain ⟨x, rfl⟩ := List.length_eq_one_iff.1 c1
  obtain ⟨B1, B2, rfl, h1, h2, h3⟩ := sA_ev x B P Q a m b hB (by simpa using hs) ha (by simpa using hm) hb
  refine ⟨B1 ++ x :: B2, ⟨?_, fun z => ?_⟩, by simp; omega, ?_⟩
  · refine hB.left.app (List.pairwise_cons.2 ⟨h2, hB.right⟩) fun p hp q hq => ?_
    rcases List.mem_cons.1 hq with rfl | hq
    · exact Int.le_of_lt (h1 p hp)
    · exact hB.across p hp q hq
  · rw [show B1 ++ x :: B2 = (B1 ++ [x]) ++ B2 by simp, show [x] ++ (B1 ++ B2) = ([x] ++ B1) ++ B2 by simp, List.filter_append (B1 ++ [x]), List.filter_append ([x] ++ B1),
      filter_cross (a := [x]) (b := B1) (fun p hp q hq => by obtain rfl := List.mem_singleton.1 hp; exact h1 q hq)]
  · refine Ev.step (g := fun k => fact_Fact_48.l0 k (P ++ ([x] ++ ((B1 ++ B2) ++ Q))) a m b) (by simpa using h3) fun k => ?_
    show fact_Fact_48.f (k + 1) _ _ _ _ = _
    simp only [fact_Fact_48.f]
    rw [w1, if_pos (by simp at hm; omega)]
theorem f48_two (A B P Q : List S55) (a m b : Nat) (hA : Srt A) (hB : Srt B) (hA0 : 0 < A.length) (hB0 : 0 < B.length) (hs : Sm (P ++ (A ++ (B ++ Q))).length) (ha : a = P.length) (hm : m = a + A.length) (hb : b = m + B.length) (c1 : ¬ A.length = 1) (c2 : B.length = 1) :
    ∃ C, SS (A ++ B) C ∧ C.length = A.length + B.length ∧ Ev (fun k => fact_Fact_48.f k (P ++ (A ++ (B ++ Q))) a m b) (P ++ (C ++ Q)) := by
  have hs' : P.length + A.length + B.length + Q.length ≤ 1000000000000000000 := by unfold Sm at hs; simp at hs; omega
  have w1 : wrap64 ((m : Int) - a) = (m : Int) - a := w64 (by omega) (by omega)
  have w2 : wrap64 ((b : Int) - m) = (b : Int) - m := w64 (by omega) (by omega)
  obtain ⟨y, rfl⟩ := List.length_eq_one_iff.1 c2
  obtain ⟨A1, A2, rfl, h1, h2, h3⟩ := sB_ev y A P Q a m hA (by simpa using hs) ha hm
  refine ⟨A1 ++ y :: A2, ⟨?_, fun z => ?_⟩, by simp; omega, ?_⟩
  · refine hA.left.app (List.pairwise_cons.2 ⟨fun q hq => Int.le_of_lt (h2 q hq), hA.right⟩) fun p hp q hq => ?_
    rcases List.mem_cons.1 hq with rfl | hq
    · exact h1 p hp
    · exact hA.across p hp q hq
  · rw [show A1 ++ y :: A2 = A1 ++ ([y] ++ A2) by simp, show (A1 ++ A2) ++ [y] = A1 ++ (A2 ++ [y]) by simp, List.filter_append A1, List.filter_append A1,
      filter_cross (a := A2) (b := [y]) (fun p hp q hq => by obtain rfl := List.mem_singleton.1 hq; exact h2 p hp)]
  · refine Ev.step (g := fun k => fact_Fact_48.l2 k (P ++ ((A1 ++ A2) ++ ([y] ++ Q))) m a m) (by simpa using h3) fun k => ?_
    show fact_Fact_48.f (k + 1) _ _ _ _ = _
    simp only [fact_Fact_48.f]
    rw [w1, w2, if_neg (by omega), if_pos (by simp at hb; omega)]
theorem f48_fin (A1 A2 B1 B2 C1 C2 P Q : List S55) (a m b mid s e : Nat) (hs' : P.length + (A1.length + A2.length) + (B1.length + B2.length) + Q.length ≤ 1000000000000000000) (ha : a = P.length) (hm : m = a + (A1.length + A2.length)) (hb : b = m + (B1.length + B2.length)) (he : e + s = mid + m) (l1 : A1.length + a = s) (l2 : B1.length + s = mid) (hsm : s ≤ m) (heb : e ≤ b)
    (p3 : a < s → s < mid → Ev (fun k => fact_Fact_48.f k (P ++ (A1 ++ (B1 ++ (A2 ++ (B2 ++ Q))))) a s mid) (P ++ (C1 ++ (A2 ++ (B2 ++ Q))))) (p4 : ¬ (a < s ∧ s < mid) → C1 = A1 ++ B1)
    (q3 : mid < e → e < b → Ev (fun k => fact_Fact_48.f k ((P ++ C1) ++ (A2 ++ (B2 ++ Q))) mid (e : Int) b) ((P ++ C1) ++ (C2 ++ Q))) (q4 : ¬ (mid < e ∧ e < b) → C2 = A2 ++ B2) :
    Ev (fun k => if (s : Int) < m then fact_Fact_48.j6 k (P ++ ((A1 ++ A2) ++ ((B1 ++ B2) ++ Q))) a m b mid s (e : Int) (decide ((m : Int) < (e : Int))) else fact_Fact_48.j6 k (P ++ ((A1 ++ A2) ++ ((B1 ++ B2) ++ Q))) a m b mid s (e : Int) false) (P ++ ((C1 ++ C2) ++ Q)) := by
  -- the second merge
  have R : Ev (fun k => if (mid : Int) < (e : Int) then (if (e : Int) < b then (fact_Fact_48.f k (P ++ (C1 ++ (A2 ++ (B2 ++ Q)))) mid (e : Int) b).bind fun t => some t else some (P ++ (C1 ++ (A2 ++ (B2 ++ Q))))) else some (P ++ (C1 ++ (A2 ++ (B2 ++ Q))))) (P ++ ((C1 ++ C2) ++ Q)) := by
    by_cases d1 : mid < e
    · have k1 : (mid : Int) < (e : Int) := by omega
      simp only [if_pos k1]
      by_cases d2 : e < b
      · have k2 : (e : Int) < (b : Int) := by omega
        simp only [if_pos k2]
        refine Ev.bind (g := fun _ t => some t) (by simpa using q3 d1 d2) (Ev.const fun _ => by simp)
      · have k2 : ¬ (e : Int) < (b : Int) := by omega
        simp only [if_neg k2]
        rw [q4 (by omega)]
        exact Ev.const fun _ => by simp
    · have k1 : ¬ (mid : Int) < (e : Int) := by omega
      simp only [if_neg k1]
      rw [q4 (by omega)]
      exact Ev.const fun _ => by simp
  -- the first merge
  have J8 : Ev (fun k => if a < s then fact_Fact_48.j8 k (P ++ (A1 ++ (B1 ++ (A2 ++ (B2 ++ Q))))) a b mid s (e : Int) (decide ((s : Int) < (mid : Int))) else fact_Fact_48.j8 k (P ++ (A1 ++ (B1 ++ (A2 ++ (B2 ++ Q))))) a b mid s (e : Int) false) (P ++ ((C1 ++ C2) ++ Q)) := by
    by_cases d : a < s ∧ s < mid
    · simp only [if_pos d.1]
      refine Ev.step (Ev.bind (g := fun k t => if (mid : Int) < (e : Int) then (if (e : Int) < b then (fact_Fact_48.f k t mid (e : Int) b).bind fun t => some t else some t) else some t) (p3 d.1 d.2) R) fun k => ?_
      show fact_Fact_48.j8 (k + 1) _ _ _ _ _ _ _ = _
      simp only [fact_Fact_48.j8]
      rw [if_pos (by simp; omega)]
    · have hfl : (if a < s then decide ((s : Int) < (mid : Int)) else false) = false := by
        by_cases d1 : a < s
        · rw [if_pos d1]; simp; omega
        · rw [if_neg d1]
      have R' := R
      rw [p4 d] at R'
      have J : Ev (fun k => fact_Fact_48.j8 k (P ++ (A1 ++ (B1 ++ (A2 ++ (B2 ++ Q))))) a b mid s (e : Int) false) (P ++ ((C1 ++ C2) ++ Q)) := by
        rw [p4 d]
        refine Ev.step R' fun k => ?_
        show fact_Fact_48.j8 (k + 1) _ _ _ _ _ _ _ = _
        simp only [fact_Fact_48.j8]
        rw [if_neg (by simp)]
        simp
      by_cases d1 : a < s
      · rw [if_pos d1] at hfl
        simp only [if_pos d1, hfl]; exact J
      · simp only [if_neg d1]; exact J
  have J7 : Ev (fun k => fact_Fact_48.j7 k (P ++ (A1 ++ (B1 ++ (A2 ++ (B2 ++ Q))))) a b mid s (e : Int)) (P ++ ((C1 ++ C2) ++ Q)) := by
    refine Ev.step J8 fun k => ?_
    show fact_Fact_48.j7 (k + 1) _ _ _ _ _ _ = _
    simp only [fact_Fact_48.j7]
    by_cases d : a < s
    · rw [if_pos (by omega), if_pos d]
    · rw [if_neg (by omega), if_neg d]
  by_cases d : s < m ∧ m < e
  · have k1 : (s : Int) < (m : Int) := by omega
    simp only [if_pos k1]
    refine Ev.step (Ev.bind (g := fun k t => fact_Fact_48.j7 k t a b mid s (e : Int)) (f50_ev A2 B1 (P ++ A1) (B2 ++ Q) s m (e : Int) (by unfold Sm; simp; omega) (by omega) (by omega) (by simp; omega) (by omega) (by omega)) (J7.eq fun k => by simp)) fun k => ?_
    show fact_Fact_48.j6 (k + 1) _ _ _ _ _ _ _ _ = _
    simp only [fact_Fact_48.j6]
    rw [if_pos (by simp; omega)]
    simp
  · have hfl : (if (s : Int) < m then decide ((m : Int) < (e : Int)) else false) = false := by
      by_cases d1 : s < m
      · rw [if_pos (by omega)]; simp; omega
      · rw [if_neg (by omega)]
    have hsame : P ++ ((A1 ++ A2) ++ ((B1 ++ B2) ++ Q)) = P ++ (A1 ++ (B1 ++ (A2 ++ (B2 ++ Q)))) := by
      by_cases d1 : s < m
      · have : B1 = [] := List.length_eq_zero_iff.1 (by omega)
        subst this; simp
      · have : A2 = [] := List.length_eq_zero_iff.1 (by omega)
        subst this; simp
    have J : Ev (fun k => fact_Fact_48.j6 k (P ++ ((A1 ++ A2) ++ ((B1 ++ B2) ++ Q))) a m b mid s (e : Int) false) (P ++ ((C1 ++ C2) ++ Q)) := by
      rw [hsame]
      refine Ev.step J7 fun k => ?_
      show fact_Fact_48.j6 (k + 1) _ _ _ _ _ _ _ _ = _
      simp only [fact_Fact_48.j6]
      rw [if_neg (by simp)]
    by_cases d1 : s < m
    · have d1' : (s : Int) < m := by omega
      rw [if_pos d1'] at hfl
      simp only [if_pos d1', hfl]; exact J
    · have k1 : ¬ (s : Int) < (m : Int) := by omega
      simp only [if_neg k1]; exact J
theorem way_words (a m b mid : Nat) (hb1 : b ≤ 1000000000000000000) (ham : a ≤ m) (hmb : m ≤ b) (h1 : 1 ≤ m) (hmid : mid = (a + b) / 2) :
    wrap64 ((m : Int) - a) = (m : Int) - a ∧ wrap64 ((b : Int) - m) = (b : Int) - m ∧ wrap64 ((IntKind.u64.wrap (wrap64 ((a : Int) + (b : Int)))) / 2) = (mid : Int) ∧ wrap64 ((mid : Int) + (m : Int)) = ((mid + m : Nat) : Int) ∧ wrap64 (((mid + m : Nat) : Int) - 1) = ((mid + m - 1 : Nat) : Int) ∧ wrap64 (((mid + m : Nat) : Int) - b) = ((mid + m : Nat) : Int) - b := by
  refine ⟨w64 (by omega) (by omega), w64 (by omega) (by omega), ?_, ?_, ?_, w64 (by omega) (by omega)⟩
  · rw [midw a b (by omega), hmid]
  · rw [w64 (by omega) (by omega)]; omega
  · rw [w64 (by omega) (by omega)]; omega
theorem way_end (xs fin : List S55) (a m b mid lo hi : Nat) (hb1 : b ≤ 1000000000000000000) (ham : a + 2 ≤ m) (hmb : m + 2 ≤ b) (hmid : mid = (a + b) / 2) (hlo : (mid < m ∧ lo + b = mid + m ∧ hi = mid) ∨ (m ≤ mid ∧ lo = a ∧ hi = m))
    (h : Ev (fun k => fact_Fact_48.l4 k xs a m b mid ((mid + m : Nat) : Int) lo hi ((mid + m - 1 : Nat) : Int)) fin) : Ev (fun k => fact_Fact_48.f k xs a m b) fin := by
  obtain ⟨w1, w2, e1, e2, e3, e4⟩ := way_words a m b mid hb1 (by omega) (by omega) (by omega) hmid
  have J4 : Ev (fun k => fact_Fact_48.j4 k xs a m b mid ((mid + m : Nat) : Int) lo hi) fin := by
    refine Ev.step h fun k => ?_
    show fact_Fact_48.j4 (k + 1) _ _ _ _ _ _ _ _ = _
    simp only [fact_Fact_48.j4, e3]
  refine Ev.step J4 fun k => ?_
  show fact_Fact_48.f (k + 1) _ _ _ _ = _
  simp only [fact_Fact_48.f]
  have n1 : ¬ ((m : Int) - a = 1) := by omega
  have n2 : ¬ ((b : Int) - m = 1) := by omega
  rw [w1, w2, if_neg n1, if_neg n2, e1, e2]
  rcases hlo with ⟨c, h1, h2⟩ | ⟨c, h1, h2⟩
  · have c' : (m : Int) > mid := by omega
    have h3 : ((mid + m : Nat) : Int) - b = (lo : Int) := by omega
    rw [if_pos c', e4, h3, h2]
  · have c' : ¬ (m : Int) > mid := by omega
    rw [if_neg c', h1, h2]
theorem f48_way (A1 A2 B1 B2 C1 C2 P Q : List S55) (a m b mid lo hi s : Nat) (hs' : P.length + (A1.length + A2.length) + (B1.length + B2.length) + Q.length ≤ 1000000000000000000) (ha : a = P.length) (hm : m = a + (A1.length + A2.length)) (hb : b = m + (B1.length + B2.length)) (hmid : mid = (a + b) / 2)
    (c1 : ¬ A1.length + A2.length = 1) (c2 : ¬ B1.length + B2.length = 1) (hlo : (mid < m ∧ lo = mid + m - b ∧ hi = mid) ∨ (m ≤ mid ∧ lo = a ∧ hi = m)) (g1 : lo ≤ s) (g2 : s ≤ hi) (l1 : A1.length = s - a) (l2 : B1.length = mid - s) (hw : a ≤ lo ∧ hi ≤ m ∧ mid + m ≤ b + lo ∧ hi ≤ mid)
    (hA0 : 0 < A1.length + A2.length) (hB0 : 0 < B1.length + B2.length)
    (g5 : ∀ r, Ev (fun k => if (s : Int) < m then fact_Fact_48.j6 k (P ++ ((A1 ++ A2) ++ ((B1 ++ B2) ++ Q))) a m b mid s ((mid + m - s : Nat) : Int) (decide ((m : Int) < ((mid + m - s : Nat) : Int))) else fact_Fact_48.j6 k (P ++ ((A1 ++ A2) ++ ((B1 ++ B2) ++ Q))) a m b mid s ((mid + m - s : Nat) : Int) false) r →
        Ev (fun k => fact_Fact_48.l4 k (P ++ ((A1 ++ A2) ++ ((B1 ++ B2) ++ Q))) a m b mid ((mid + m : Nat) : Int) lo hi ((mid + m - 1 : Nat) : Int)) r)
    (p3 : a < s → s < mid → Ev (fun k => fact_Fact_48.f k (P ++ (A1 ++ (B1 ++ (A2 ++ (B2 ++ Q))))) a s mid) (P ++ (C1 ++ (A2 ++ (B2 ++ Q))))) (p4 : ¬ (a < s ∧ s < mid) → C1 = A1 ++ B1)
    (q3 : mid < mid + m - s → mid + m - s < b → Ev (fun k => fact_Fact_48.f k ((P ++ C1) ++ (A2 ++ (B2 ++ Q))) mid ((mid + m - s : Nat) : Int) b) ((P ++ C1) ++ (C2 ++ Q))) (q4 : ¬ (mid < mid + m - s ∧ mid + m - s < b) → C2 = A2 ++ B2) :
    Ev (fun k => fact_Fact_48.f k (P ++ ((A1 ++ A2) ++ ((B1 ++ B2) ++ Q))) a m b) (P ++ ((C1 ++ C2) ++ Q)) := by
  have bb : b ≤ 1000000000000000000 := by clear hlo hmid hw g1 g2 l1 l2 c1 c2 g5 p3 p4 q3 q4; omega
  have am : a + 2 ≤ m := by clear hlo hmid hw g1 g2 l1 l2 c2 g5 p3 p4 q3 q4; omega
  have mb : m + 2 ≤ b := by clear hlo hmid hw g1 g2 l1 l2 c1 g5 p3 p4 q3 q4; omega
  have sm : s ≤ m ∧ s ≤ mid ∧ a ≤ s ∧ mid + m ≤ b + s := by clear hlo hmid l1 l2 c1 c2 g5 p3 p4 q3 q4; omega
  obtain ⟨s1, s2, s3, s4⟩ := sm
  have fin := g5 (P ++ ((C1 ++ C2) ++ Q)) (f48_fin A1 A2 B1 B2 C1 C2 P Q a m b mid s (mid + m - s) hs' ha hm hb (Nat.sub_add_cancel (Nat.le_trans s2 (Nat.le_add_right _ _))) (by rw [l1]; exact Nat.sub_add_cancel s3) (by rw [l2]; exact Nat.sub_add_cancel s2) s1 (Nat.sub_le_iff_le_add.2 s4) p3 p4 q3 q4)
  refine way_end _ _ a m b mid lo hi bb am mb hmid ?_ fin
  clear g5 p3 p4 q3 q4 fin l1 l2 c1 c2 hw hs'
  rcases hlo with ⟨x1, x2, x3⟩ | h
  · exact .inl ⟨x1, by omega, x3⟩
  · exact .inr h
theorem f48_gen (n : Nat) (ih : ∀ (A B P Q : List S55) (a m b : Nat), A.length + B.length ≤ n → Srt A → Srt B → 0 < A.length → 0 < B.length → Sm (P ++ (A ++ (B ++ Q))).length → a = P.length → m = a + A.length → b = m + B.length →
    ∃ C, SS (A ++ B) C ∧ C.length = A.length + B.length ∧ Ev (fun k => fact_Fact_48.f k (P ++ (A ++ (B ++ Q))) a m b) (P ++ (C ++ Q)))
    (A B P Q : List S55) (a m b : Nat) (hA : Srt A) (hB : Srt B) (hA0 : 0 < A.length) (hB0 : 0 < B.length) (hs : Sm (P ++ (A ++ (B ++ Q))).length) (ha : a = P.length) (hm : m = a + A.length) (hb : b = m + B.length) (hn : A.length + B.length ≤ n + 1) (c1 : ¬ A.length = 1) (c2 : ¬ B.length = 1) :
    ∃ C, SS (A ++ B) C ∧ C.length = A.length + B.length ∧ Ev (fun k => fact_Fact_48.f k (P ++ (A ++ (B ++ Q))) a m b) (P ++ (C ++ Q)) := by
  have hs' : P.length + A.length + B.length + Q.length ≤ 1000000000000000000 := by unfold Sm at hs; simp at hs; omega
  obtain ⟨mid, hmid⟩ : ∃ mid, mid = (a + b) / 2 := ⟨_, rfl⟩
  obtain ⟨lo, hi, hlo⟩ : ∃ lo hi, (mid < m ∧ lo = mid + m - b ∧ hi = mid) ∨ (m ≤ mid ∧ lo = a ∧ hi = m) := by
    by_cases c : mid < m
    · exact ⟨_, _, .inl ⟨c, rfl, rfl⟩⟩
    · exact ⟨_, _, .inr ⟨by omega, rfl, rfl⟩⟩
  obtain ⟨s, g1, g2, ⟨A1, A2, B1, B2, rfl, rfl, l1, l2, x1, x2⟩, g5⟩ := sC_find A B P Q a m b mid lo hi hA hB hs ha hm hb hmid ⟨by omega, by omega, hlo⟩ (by omega) (by omega)
  have hlA : (A1 ++ A2).length = A1.length + A2.length := by simp
  have hlB : (B1 ++ B2).length = B1.length + B2.length := by simp
  have hw : a ≤ lo ∧ hi ≤ m ∧ mid + m ≤ b + lo ∧ hi ≤ mid := by omega
  -- the left part
  obtain ⟨C1, p1, p2, p3⟩ : ∃ C1, SS (A1 ++ B1) C1 ∧ C1.length = A1.length + B1.length ∧ (a < s → s < mid → Ev (fun k => fact_Fact_48.f k (P ++ (A1 ++ (B1 ++ (A2 ++ (B2 ++ Q))))) a s mid) (P ++ (C1 ++ (A2 ++ (B2 ++ Q))))) ∧ (¬ (a < s ∧ s < mid) → C1 = A1 ++ B1) := by
    by_cases hc : a < s ∧ s < mid
    · obtain ⟨C1, q1, q2, q3⟩ := ih A1 B1 P (A2 ++ (B2 ++ Q)) a s mid (by omega) hA.left hB.left (by omega) (by omega) (by unfold Sm; simp; omega) ha (by omega) (by omega)
      exact ⟨C1, q1, q2, fun _ _ => q3, fun h => absurd hc h⟩
    · refine ⟨A1 ++ B1, SS.refl ?_, by simp, fun h1 h2 => absurd ⟨h1, h2⟩ hc, fun _ => rfl⟩
      by_cases e : s = a
      · have : A1 = [] := List.length_eq_zero_iff.1 (by omega)
        subst this; simpa using hB.left
      · have : B1 = [] := List.length_eq_zero_iff.1 (by omega)
        subst this; simpa using hA.left
  obtain ⟨p3, p4⟩ := p3
  obtain ⟨C2, q1, q2, q3, q4⟩ : ∃ C2, SS (A2 ++ B2) C2 ∧ C2.length = A2.length + B2.length ∧ (mid < mid + m - s → mid + m - s < b → Ev (fun k => fact_Fact_48.f k ((P ++ C1) ++ (A2 ++ (B2 ++ Q))) mid ((mid + m - s : Nat) : Int) b) ((P ++ C1) ++ (C2 ++ Q))) ∧ (¬ (mid < mid + m - s ∧ mid + m - s < b) → C2 = A2 ++ B2) := by
    by_cases hc : mid < mid + m - s ∧ mid + m - s < b
    · obtain ⟨C2, q1, q2, q3⟩ := ih A2 B2 (P ++ C1) Q mid (mid + m - s) b (by omega) hA.right hB.right (by omega) (by omega) (by unfold Sm; simp; omega) (by simp; omega) (by omega) (by omega)
      exact ⟨C2, q1, q2, fun _ _ => q3, fun h => absurd hc h⟩
    · refine ⟨A2 ++ B2, SS.refl ?_, by simp, fun h1 h2 => absurd ⟨h1, h2⟩ hc, fun _ => rfl⟩
      by_cases e : s = m
      · have : A2 = [] := List.length_eq_zero_iff.1 (by omega)
        subst this; simpa using hB.right
      · have : B2 = [] := List.length_eq_zero_iff.1 (by omega)
        subst this; simpa using hA.right
  refine ⟨C1 ++ C2, ?_, by simp; omega, ?_⟩
  · have h1 := SS.app p1 q1 (fun x hx y hy => by
      rcases List.mem_append.1 hx with hx | hx <;> rcases List.mem_append.1 hy with hy | hy
      · exact hA.across x hx y hy
      · exact x2 x hx y hy
      · exact Int.le_of_lt (x1 y hy x hx)
      · exact hB.across x hx y hy)
    refine ⟨h1.1, fun z => ?_⟩
    rw [h1.2 z, show (A1 ++ B1) ++ (A2 ++ B2) = A1 ++ ((B1 ++ A2) ++ B2) by simp, show (A1 ++ A2) ++ (B1 ++ B2) = A1 ++ ((A2 ++ B1) ++ B2) by simp,
      List.filter_append A1, List.filter_append A1, List.filter_append (B1 ++ A2), List.filter_append (A2 ++ B1), filter_cross (a := A2) (b := B1) x1]
  · rw [hlA] at hm c1 hA0 hs'
    rw [hlB] at hb c2 hB0 hs'
    exact f48_way A1 A2 B1 B2 C1 C2 P Q a m b mid lo hi s hs' ha hm hb hmid c1 c2 hlo g1 g2 l1 l2 hw hA0 hB0 g5 p3 p4 q3 q4
theorem f48_ev (n : Nat) : ∀ (A B P Q : List S55) (a m b : Nat), A.length + B.length ≤ n → Srt A → Srt B → 0 < A.length → 0 < B.length → Sm (P ++ (A ++ (B ++ Q))).length → a = P.length → m = a + A.length → b = m + B.length →
    ∃ C, SS (A ++ B) C ∧ C.length = A.length + B.length ∧ Ev (fun k => fact_Fact_48.f k (P ++ (A ++ (B ++ Q))) a m b) (P ++ (C ++ Q)) := by
  induction n with
  | zero => intro A B P Q a m b hn hA hB hA0 hB0; omega
  | succ n ih =>
    intro A B P Q a m b hn hA hB hA0 hB0 hs ha hm hb
    by_cases c1 : A.length = 1
    · exact f48_one A B P Q a m b hA hB hA0 hB0 hs ha hm hb c1
    by_cases c2 : B.length = 1
    · exact f48_two A B P Q a m b hA hB hA0 hB0 hs ha hm hb c1 c2
    exact f48_gen n ih A B P Q a m b hA hB hA0 hB0 hs ha hm hb hn c1 c2
/-- Block by block. -/
inductive Bl (bs : Nat) : List S55 → List S55 → Prop where
  | last {l r : List S55} : l.length ≤ bs → SS l r → r.length = l.length → Bl bs l r
  | cons {l1 r1 l r : List S55} : l1.length = bs → SS l1 r1 → r1.length = bs → Bl bs l r → Bl bs (l1 ++ l) (r1 ++ r)
theorem Bl.len {bs : Nat} {l r : List S55} (h : Bl bs l r) : r.length = l.length := by
  induction h with
  | last _ _ e => exact e
  | cons h1 _ h2 _ ih => simp [h1, h2, ih]
theorem SS.nil : SS [] [] := SS.refl List.Pairwise.nil
theorem Bl.one {bs : Nat} {l r : List S55} (h : Bl bs l r) (hl : l.length ≤ bs) : SS l r := by
  cases h with
  | last _ h _ => exact h
  | @cons l1 r1 l r h1 h2 h3 h4 =>
    have e : l = [] := List.length_eq_zero_iff.1 (by simp at hl; omega)
    subst e
    have e : r = [] := List.length_eq_zero_iff.1 h4.len
    subst e
    simpa using h2
theorem Bl.head {bs : Nat} {l r : List S55} (h : Bl bs l r) (hl : bs ≤ l.length) : ∃ l1 r1 l2 r2, l = l1 ++ l2 ∧ r = r1 ++ r2 ∧ l1.length = bs ∧ r1.length = bs ∧ SS l1 r1 ∧ Bl bs l2 r2 := by
  cases h with
  | last h1 h2 h3 => exact ⟨l, r, [], [], by simp, by simp, by omega, by omega, h2, .last (by simp) SS.nil rfl⟩
  | @cons l1 r1 l r h1 h2 h3 h4 => exact ⟨l1, r1, l, r, rfl, rfl, h1, h3, h2, h4⟩
theorem SS.join {l1 l2 r1 r2 c : List S55} (h1 : SS l1 r1) (h2 : SS l2 r2) (h : SS (r1 ++ r2) c) : SS (l1 ++ l2) c :=
  ⟨h.1, fun x => by rw [h.2, List.filter_append, List.filter_append, h1.2, h2.2]⟩
theorem l43_0_ev : ∀ (n : Nat) (T P : List S55) (N a b : Nat), T.length ≤ n → Sm (P ++ T).length → N = (P ++ T).length → a = P.length → b = a + 20 →
    ∃ R, Bl 20 T R ∧ ∀ fin, Ev (fun k => fact_Fact_43.l1 k (P ++ R) N 20) fin → Ev (fun k => fact_Fact_43.l0 k (P ++ T) N 20 a b) fin
  | n, T, P, N, a, b, hn, hs, hN, ha, hb => by
    have hs' : P.length + T.length ≤ 1000000000000000000 := by unfold Sm at hs; simp at hs; omega
    have hN' : N = P.length + T.length := by simpa using hN
    by_cases h : 20 ≤ T.length
    · cases n with
      | zero => omega
      | succ n =>
        obtain ⟨T1, T2, rfl, h1⟩ := part_at T 20 h
        have hl : (T1 ++ T2).length = T1.length + T2.length := by simp
        obtain ⟨S1, p1, p2, p3⟩ := f47_ev T1 P T2 a b (by simpa using hs) (by omega) (by omega)
        obtain ⟨R, q1, q2⟩ := l43_0_ev n T2 (P ++ S1) N b (b + 20) (by omega) (by unfold Sm; simp; omega) (by simp; omega) (by simp; omega) rfl
        refine ⟨S1 ++ R, .cons h1 p1 (by omega) q1, fun fin hf => ?_⟩
        have hf' := q2 fin (by simpa using hf)
        refine Ev.step (Ev.bind (g := fun k t => fact_Fact_43.l0 k t N 20 b ((b + 20 : Nat) : Int)) p3 (by simpa using hf')) fun k => ?_
        show fact_Fact_43.l0 (k + 1) _ _ _ _ _ = _
        simp only [fact_Fact_43.l0]
        rw [if_pos (by omega), w64 (n := (b : Int) + 20) (by omega) (by omega)]
        simp
    · obtain ⟨S1, p1, p2, p3⟩ := f47_ev T P [] a N (by simpa using hs) (by omega) (by omega)
      refine ⟨S1, .last (by omega) p1 p2, fun fin hf => ?_⟩
      refine Ev.step (Ev.bind (g := fun k t => fact_Fact_43.l1 k t N 20) p3 (by simpa using hf)) fun k => ?_
      show fact_Fact_43.l0 (k + 1) _ _ _ _ _ = _
      simp only [fact_Fact_43.l0]
      rw [if_neg (by omega)]
      simp
theorem l43_2_ev : ∀ (n : Nat) (T R P : List S55) (N a b bs : Nat), T.length ≤ n → Bl bs T R → 0 < bs → bs ≤ N → Sm (P ++ R).length → N = (P ++ R).length → a = P.length → b = a + 2 * bs →
    ∃ R', Bl (2 * bs) T R' ∧ ∀ fin, Ev (fun k => fact_Fact_43.l1 k (P ++ R') N ((2 * bs : Nat) : Int)) fin → Ev (fun k => fact_Fact_43.l2 k (P ++ R) N bs a b) fin
  | n, T, R, P, N, a, b, bs, hn, hB, hb0, hbN, hs, hN, ha, hb => by
    have hs' : P.length + R.length ≤ 1000000000000000000 := by unfold Sm at hs; simp at hs; omega
    have hN' : N = P.length + R.length := by simpa using hN
    have hlen := hB.len
    have w1 : wrap64 ((a : Int) + bs) = ((a + bs : Nat) : Int) := by rw [w64 (by omega) (by omega)]; omega
    have w2 : wrap64 ((bs : Int) * 2) = ((2 * bs : Nat) : Int) := by rw [w64 (by omega) (by omega)]; omega
    by_cases h : 2 * bs ≤ T.length
    · cases n with
      | zero => omega
      | succ n =>
        obtain ⟨t1, r1, T', R', rfl, rfl, e1, e2, e3, e4⟩ := hB.head (by omega)
        have hl1 : (t1 ++ T').length = t1.length + T'.length := by simp
        obtain ⟨t2, r2, T3, R3, rfl, rfl, d1, d2, d3, d4⟩ := e4.head (by omega)
        have hl2 : (t2 ++ T3).length = t2.length + T3.length := by simp
        have hl3 : (r1 ++ (r2 ++ R3)).length = r1.length + r2.length + R3.length := by simp; omega
        obtain ⟨C, c1, c2, c3⟩ := f48_ev _ r1 r2 P R3 a (a + bs) b (Nat.le_refl _) e3.1 d3.1 (by omega) (by omega) (by unfold Sm; simp; omega) ha (by omega) (by omega)
        obtain ⟨R', q1, q2⟩ := l43_2_ev n T3 R3 (P ++ C) N b (b + 2 * bs) bs (by omega) d4 hb0 hbN (by unfold Sm; simp; omega) (by simp; omega) (by simp; omega) rfl
        refine ⟨C ++ R', ?_, fun fin hf => ?_⟩
        · rw [← List.append_assoc]
          exact .cons (by simp; omega) (SS.join e3 d3 c1) (by omega) q1
        · have hf' := q2 fin (by simpa using hf)
          refine Ev.step (Ev.bind (g := fun k t => fact_Fact_43.l2 k t N bs b ((b + 2 * bs : Nat) : Int)) c3 (by simpa using hf')) fun k => ?_
          show fact_Fact_43.l2 (k + 1) _ _ _ _ _ = _
          simp only [fact_Fact_43.l2]
          rw [if_pos (by omega), w1, w64 (n := 2 * (bs : Int)) (by omega) (by omega), w64 (n := (b : Int) + 2 * (bs : Int)) (by omega) (by omega), show (b : Int) + 2 * (bs : Int) = ((b + 2 * bs : Nat) : Int) by omega]
    · by_cases h2 : bs < T.length
      · obtain ⟨t1, r1, T', R', rfl, rfl, e1, e2, e3, e4⟩ := hB.head (by omega)
        have hl1 : (t1 ++ T').length = t1.length + T'.length := by simp
        have hl2 : (r1 ++ R').length = r1.length + R'.length := by simp
        have e5 := e4.one (by omega)
        obtain ⟨C, c1, c2, c3⟩ := f48_ev _ r1 R' P [] a (a + bs) N (Nat.le_refl _) e3.1 e5.1 (by omega) (by omega) (by unfold Sm; simp; omega) ha (by omega) (by omega)
        refine ⟨C, .last (by omega) (SS.join e3 e5 c1) (by omega), fun fin hf => ?_⟩
        refine Ev.step (Ev.bind (g := fun k t => fact_Fact_43.l1 k t N ((2 * bs : Nat) : Int)) c3 (by simpa using hf)) fun k => ?_
        show fact_Fact_43.l2 (k + 1) _ _ _ _ _ = _
        simp only [fact_Fact_43.l2]
        rw [if_neg (by omega), w1, w2, if_pos (by omega)]
        simp
      · have e5 := hB.one (by omega)
        refine ⟨R, .last (by omega) e5 hlen, fun fin hf => ?_⟩
        refine Ev.step hf fun k => ?_
        show fact_Fact_43.l2 (k + 1) _ _ _ _ _ = _
        simp only [fact_Fact_43.l2]
        rw [if_neg (by omega), w1, w2, if_neg (by omega)]
theorem l43_1_ev : ∀ (n : Nat) (T R : List S55) (N bs : Nat), N ≤ bs + n → Bl bs T R → 0 < bs → Sm R.length → N = R.length → ∃ F, SS T F ∧ F.length = T.length ∧ Ev (fun k => fact_Fact_43.l1 k R N bs) F
  | n, T, R, N, bs, hn, hB, hb0, hs, hN => by
    unfold Sm at hs
    have hlen := hB.len
    by_cases h : bs < N
    · cases n with
      | zero => omega
      | succ n =>
        obtain ⟨R', q1, q2⟩ := l43_2_ev _ T R [] N 0 (2 * bs) bs (Nat.le_refl _) hB hb0 (by omega) (by unfold Sm; simpa using hs) (by simpa using hN) rfl (by omega)
        have hl' := q1.len
        obtain ⟨F, f1, f2, f3⟩ := l43_1_ev n T R' N (2 * bs) (by omega) q1 (by omega) (by unfold Sm; omega) (by omega)
        refine ⟨F, f1, f2, Ev.step (q2 F (by simpa using f3)) fun k => ?_⟩
        show fact_Fact_43.l1 (k + 1) _ _ _ = _
        simp only [fact_Fact_43.l1]
        rw [if_pos (by omega), w64 (n := 2 * (bs : Int)) (by omega) (by omega)]
        simp
    · refine ⟨R, hB.one (by omega), hlen, Ev.some fun k => ?_⟩
      simp only [fact_Fact_43.l1]
      rw [if_neg (by omega)]
/-- The library's stable sort. -/
theorem f33_ev (T : List S55) (hs : Sm T.length) : ∃ F, SS T F ∧ F.length = T.length ∧ Ev (fun k => fact_Fact_33.f k T) F := by
  obtain ⟨R, h1, h2⟩ := l43_0_ev _ T [] T.length 0 20 (Nat.le_refl _) (by simpa using hs) (by simp) rfl rfl
  have hl := h1.len
  obtain ⟨F, f1, f2, f3⟩ := l43_1_ev T.length T R T.length 20 (by omega) h1 (by omega) (by rw [hl]; exact hs) hl.symm
  refine ⟨F, f1, f2, ?_⟩
  have h3 := h2 F (by simpa using f3)
  unfold fact_Fact_33.f
  refine Ev.bind (g := fun _ t => some t) ?_ (Ev.const fun _ => rfl)
  simpa [fact_Fact_43.f] using h3
theorem ofSum_ok (x : S44) : ∀ (R : List S55) (acc : Int), (∀ y ∈ R, cmpK x y.f0 = 0) → acc.natAbs + abt x R ≤ 4611686018427387904 → ofSum acc R = some (acc + amt x R, 0)
  | [], acc, h, hb => by simp [ofSum, amt]
  | y :: R, acc, h, hb => by
    have hy := h y (by simp)
    simp only [abt, if_pos hy] at hb
    have ih := ofSum_ok x R (acc + y.f1) (fun z hz => h z (by simp [hz])) (by omega)
    unfold ofSum
    rw [cent_fits acc y.f1 (by unfold Fit; omega) (by unfold Fit; omega) (by unfold Fit; omega)]
    simp only [Option.bind_some, if_true, ih, amt, if_pos hy]
    congr 2
    omega
theorem sameKey_iff (x y : S55) : sameKey x y = true ↔ x.f0 = y.f0 := by
  constructor
  · intro h
    simp only [sameKey, Bool.and_eq_true, beq_iff_eq, Lib.toList_data] at h
    obtain ⟨h0, h1, h2, h3, h4⟩ := h
    have e0 := bytes_eq h0
    have e1 := bytes_eq h1
    have e2 := bytes_eq h2
    have e3 := bytes_eq h3
    obtain ⟨⟨a0, a1, a2, a3, a4⟩, _⟩ := x
    obtain ⟨⟨b0, b1, b2, b3, b4⟩, _⟩ := y
    simp only at e0 e1 e2 e3 h4
    subst e0 e1 e2 e3 h4
    rfl
  · intro h
    simp [sameKey, h]
theorem tw_mem (p : S55 → Bool) : ∀ (l : List S55) (y : S55), y ∈ l.takeWhile p → p y = true
  | [], y, h => by simp at h
  | x :: l, y, h => by
    by_cases hx : p x = true
    · rw [List.takeWhile_cons_of_pos hx] at h
      rcases List.mem_cons.1 h with rfl | h
      · exact hx
      · exact tw_mem p l y h
    · rw [List.takeWhile_cons_of_neg hx] at h; simp at h
theorem dw_head (p : S55 → Bool) : ∀ (l : List S55) (z : S55) (D : List S55), l.dropWhile p = z :: D → ¬ p z = true
  | [], z, D, h => by simp at h
  | x :: l, z, D, h => by
    by_cases hx : p x = true
    · rw [List.dropWhile_cons_of_pos hx] at h
      exact dw_head p l z D h
    · rw [List.dropWhile_cons_of_neg hx] at h
      injection h with h1 h2
      subst h1; exact hx
theorem run_split (x : S55) (xs : List S55) (hs : Srt (x :: xs)) : ∃ R D, (x :: xs).take (runLen (x :: xs)) = x :: R ∧ (x :: xs).drop (runLen (x :: xs)) = D ∧ xs = R ++ D ∧ (∀ y ∈ x :: R, cmpK x.f0 y.f0 = 0) ∧ (∀ y ∈ D, cmpK x.f0 y.f0 < 0) := by
  refine ⟨xs.takeWhile (fun y => sameKey y x), xs.dropWhile (fun y => sameKey y x), ?_, ?_, (List.takeWhile_append_dropWhile).symm, ?_, ?_⟩
  · show (x :: xs).take (1 + _) = _
    rw [Nat.add_comm, List.take_succ_cons]
    congr 1
    conv => lhs; arg 2; rw [← List.takeWhile_append_dropWhile (p := fun y => sameKey y x) (l := xs)]
    rw [List.take_left]
  · show (x :: xs).drop (1 + _) = _
    rw [Nat.add_comm, List.drop_succ_cons]
    conv => lhs; arg 2; rw [← List.takeWhile_append_dropWhile (p := fun y => sameKey y x) (l := xs)]
    rw [List.drop_left]
  · intro y hy
    rcases List.mem_cons.1 hy with rfl | hy
    · exact cmpK_good.refl _
    · have := tw_mem _ _ _ hy
      rw [(sameKey_iff y x).1 this]
      exact cmpK_good.refl _
  · intro y hy
    obtain ⟨z, D', hD⟩ : ∃ z D', xs.dropWhile (fun y => sameKey y x) = z :: D' := cons_of_pos (List.length_pos_of_mem hy)
    have hz : ¬ sameKey z x = true := dw_head (fun y => sameKey y x) xs z D' hD
    have hsD : Srt (z :: D') := by
      have h1 := (List.pairwise_cons.1 hs).2
      rw [← List.takeWhile_append_dropWhile (p := fun y => sameKey y x) (l := xs), hD] at h1
      exact Srt.right h1
    have hxz : cmpS x z ≤ 0 := (List.pairwise_cons.1 hs).1 z (by
      rw [← List.takeWhile_append_dropWhile (p := fun y => sameKey y x) (l := xs), hD]; simp)
    have hne : ¬ cmpK x.f0 z.f0 = 0 := fun e => hz ((sameKey_iff z x).2 ((cmpK_zero _ _).1 e).symm)
    rw [hD] at hy
    exact lt_le (x := x) (y := z) (z := y) (by unfold cmpS at hxz ⊢; omega) (first_le hsD y hy)
theorem ofGo_ev : ∀ (n : Nat) (cur out : List S55), cur.length ≤ n → Srt cur → Rise out → (∀ y ∈ out, ∀ z ∈ cur, cmpS y z < 0) → (∀ y ∈ out, y.f1 ≠ 0) → (∀ x, abt x cur ≤ 4611686018427387904) → out.length + cur.length ≤ 2000 →
    ∃ r, Ev (fun k => ofGo k cur out) (out ++ r, 0) ∧ Rise (out ++ r) ∧ (∀ y ∈ out ++ r, y.f1 ≠ 0) ∧ (∀ x, amt x r = amt x cur) ∧ r.length ≤ cur.length
  | n, [], out, hn, hs, hr, hx, hz, hb, hl => by
    refine ⟨[], Ev.some fun k => ?_, by simpa using hr, by simpa using hz, fun x => rfl, Nat.le_refl _⟩
    unfold ofGo
    rw [if_pos (show ([] : List S55).length = 0 from rfl), if_neg (by simp at hl; omega)]
    simp
  | 0, x :: xs, out, hn, hs, hr, hx, hz, hb, hl => by simp at hn
  | n + 1, x :: xs, out, hn, hs, hr, hx, hz, hb, hl => by
    obtain ⟨R, D, e1, e2, e3, hR, hD⟩ := run_split x xs hs
    have hxs : x :: xs = (x :: R) ++ D := by rw [e3]; rfl
    have hsum := ofSum_ok x.f0 (x :: R) 0 hR (by have := hb x.f0; rw [hxs, abt_app] at this; simp; omega)
    have hD0 : ∀ y ∈ D, ¬ cmpK x.f0 y.f0 = 0 := fun y hy e => by have := hD y hy; omega
    have hlen : xs.length = R.length + D.length := by rw [e3]; simp
    simp only [List.length_cons] at hn hl
    have rd0 : (rd_T55 (x :: xs) 0).f0 = x.f0 := rfl
    have hne : ¬ (x :: xs).length = 0 := by simp
    have hother : ∀ k : S44, ¬ cmpK k x.f0 = 0 → amt k (x :: R) = 0 := fun k hk => amt_none _ _ fun y hy e => hk (by
      have := (cmpK_zero _ _).1 (hR y hy)
      rw [this]; exact e)
    have hbD : ∀ k, abt k D ≤ 4611686018427387904 := fun k => by have := hb k; rw [hxs, abt_app] at this; omega
    have hsD : Srt D := by rw [hxs] at hs; exact hs.right
    have st : ∀ k, ofGo (k + 1) (x :: xs) out = if amt x.f0 (x :: R) = 0 then ofGo k D out else if out.length < 1759218604441 then ofGo k D (out ++ [⟨x.f0, amt x.f0 (x :: R)⟩]) else none := fun k => by
      conv => lhs; unfold ofGo
      rw [if_neg hne, e1, hsum, Option.bind_some, e2, rd0]
      simp
    by_cases h0 : amt x.f0 (x :: R) = 0
    · obtain ⟨r, g1, g2, g3, g4, g5⟩ := ofGo_ev n D out (by omega) hsD hr (fun y hy z hz' => hx y hy z (by rw [hxs]; simp [hz'])) hz hbD (by omega)
      refine ⟨r, Ev.step g1 fun k => by rw [st, if_pos h0], g2, g3, fun k => ?_, by simp; omega⟩
      rw [g4, hxs, amt_app]
      by_cases hk : cmpK k x.f0 = 0
      · rw [(cmpK_zero _ _).1 hk, h0]; omega
      · rw [hother k hk]; omega
    · obtain ⟨r, g1, g2, g3, g4, g5⟩ := ofGo_ev n D (out ++ [⟨x.f0, amt x.f0 (x :: R)⟩]) (by omega) hsD
        (List.pairwise_append.2 ⟨hr, List.pairwise_singleton _ _, fun y hy z hz' => by obtain rfl := List.mem_singleton.1 hz'; exact hx y hy x (by simp)⟩)
        (fun y hy z hz' => by
          rcases List.mem_append.1 hy with hy | hy
          · exact hx y hy z (by rw [hxs]; simp [hz'])
          · obtain rfl := List.mem_singleton.1 hy; exact hD z hz')
        (fun y hy => by
          rcases List.mem_append.1 hy with hy | hy
          · exact hz y hy
          · obtain rfl := List.mem_singleton.1 hy; exact h0) hbD (by simp; omega)
      refine ⟨⟨x.f0, amt x.f0 (x :: R)⟩ :: r, Ev.step (g := fun k => ofGo k D (out ++ [⟨x.f0, amt x.f0 (x :: R)⟩])) (by simpa using g1) fun k => by rw [st, if_neg h0, if_pos (by omega)], by simpa using g2, by simpa using g3, fun k => ?_, by simp; omega⟩
      rw [hxs, amt_app]
      show (if cmpK k x.f0 = 0 then amt x.f0 (x :: R) else 0) + amt k r = _
      rw [g4]
      by_cases hk : cmpK k x.f0 = 0
      · rw [if_pos hk, (cmpK_zero _ _).1 hk]
      · rw [if_neg hk, hother k hk]
/-- fact.Of, of facts whose sums fit. -/
theorem Of_ev (l : List S55) (hl : l.length ≤ 2000) (hb : ∀ x, abt x l ≤ 4611686018427387904) : ∃ r, Ev (fun k => fact_Of.f k l) (r, 0) ∧ IsCube l r ∧ r.length ≤ l.length := by
  obtain ⟨F, f1, f2, f3⟩ := f33_ev l (by unfold Sm; omega)
  obtain ⟨r, g1, g2, g3, g4, g5⟩ := ofGo_ev F.length F [] (Nat.le_refl _) f1.1 List.Pairwise.nil (by simp) (by simp) (fun x => by rw [f1.abt]; exact hb x) (by simp; omega)
  refine ⟨r, ?_, ⟨by simpa using g2, by simpa using g3, fun x => by rw [g4, f1.amt]⟩, by omega⟩
  unfold fact_Of.f fact_Clone.f
  simp only [if_pos (show l.length < 1759218604441 by omega), Option.bind_some]
  exact Ev.bind (g := fun k s => ofGo k s []) f3 (by simpa using g1)
/-- The amounts of a key, in their order. -/
def ams (x : S44) (l : List S55) : List Int := (l.filter fun y => cmpK x y.f0 == 0).map (·.f1)
theorem SS.ams {l r : List S55} (h : SS l r) (x : S44) : ams x r = ams x l := congrArg (List.map (fun y : S55 => y.f1)) (h.2 ⟨x, 0⟩)
def RiseK (ks : List S44) : Prop := ks.Pairwise fun x y => cmpK x y < 0
def gath (l : List S55) : List S44 → List S55 → List S55 × Int
  | [], out => if (out.length : Int) > 2000 then ([], 4) else (out, 0)
  | x :: ks, out => match sumL 0 (ams x l) with
    | none => ([], 2)
    | some n => if n = 0 then gath l ks out else gath l ks (out ++ [⟨x, n⟩])
theorem gath_congr {l l' : List S55} : ∀ (ks : List S44) (out : List S55), (∀ x ∈ ks, ams x l = ams x l') → gath l ks out = gath l' ks out
  | [], out, _ => rfl
  | x :: ks, out, h => by
    have ih := fun o => gath_congr (l := l) (l' := l') ks o fun y hy => h y (by simp [hy])
    simp only [gath, h x (by simp), ih]
theorem ams_app (x : S44) (a b : List S55) : ams x (a ++ b) = ams x a ++ ams x b := by simp [ams]
theorem ams_none (x : S44) (l : List S55) (h : ∀ y ∈ l, ¬ cmpK x y.f0 = 0) : ams x l = [] := by
  have : l.filter (fun y => cmpK x y.f0 == 0) = [] := List.filter_eq_nil_iff.2 fun y hy e => h y hy (by simpa using e)
  simp [ams, this]
theorem ams_all (x : S44) (l : List S55) (h : ∀ y ∈ l, cmpK x y.f0 = 0) : ams x l = l.map (·.f1) := by
  have : l.filter (fun y => cmpK x y.f0 == 0) = l := List.filter_eq_self.2 fun y hy => by simpa using h y hy
  simp [ams, this]
theorem RiseK.unique : ∀ (a b : List S44), RiseK a → RiseK b → (∀ x, x ∈ a ↔ x ∈ b) → a = b
  | [], [], _, _, _ => rfl
  | [], y :: b, _, _, h => absurd ((h y).2 (by simp)) (by simp)
  | y :: a, [], _, _, h => absurd ((h y).1 (by simp)) (by simp)
  | y :: a, z :: b, ha, hb, h => by
    have a1 := List.pairwise_cons.1 ha
    have b1 := List.pairwise_cons.1 hb
    have e : y = z := by
      rcases List.mem_cons.1 ((h y).1 (by simp)) with e | hy
      · exact e
      · rcases List.mem_cons.1 ((h z).2 (by simp)) with e | hz
        · exact e.symm
        · have h1 := b1.1 y hy
          have h2 := a1.1 z hz
          have := cmpK_good.anti y z
          omega
    subst e
    congr 1
    refine RiseK.unique a b a1.2 b1.2 fun x => ⟨fun hx => ?_, fun hx => ?_⟩
    · rcases List.mem_cons.1 ((h x).1 (by simp [hx])) with rfl | g
      · have := a1.1 x hx; have := cmpK_good.refl x; omega
      · exact g
    · rcases List.mem_cons.1 ((h x).2 (by simp [hx])) with rfl | g
      · have := b1.1 x hx; have := cmpK_good.refl x; omega
      · exact g
theorem ofGo_gath : ∀ (n : Nat) (cur out : List S55), cur.length ≤ n → Srt cur → (∀ y ∈ cur, Fit y.f1) → out.length + cur.length ≤ 1000000 →
    ∃ ks, RiseK ks ∧ (∀ x, x ∈ ks ↔ ∃ y ∈ cur, y.f0 = x) ∧ Ev (fun k => ofGo k cur out) (gath cur ks out)
  | n, [], out, hn, hs, hf, hl => by
    refine ⟨[], List.Pairwise.nil, by simp, Ev.some fun k => ?_⟩
    unfold ofGo
    rw [if_pos (show ([] : List S55).length = 0 from rfl)]
    simp only [gath]
    split <;> rfl
  | 0, x :: xs, out, hn, hs, hf, hl => by simp at hn
  | n + 1, x :: xs, out, hn, hs, hf, hl => by
    obtain ⟨R, D, e1, e2, e3, hR, hD⟩ := run_split x xs hs
    have hxs : x :: xs = (x :: R) ++ D := by rw [e3]; rfl
    have hlen : xs.length = R.length + D.length := by rw [e3]; simp
    simp only [List.length_cons] at hn hl
    have hsD : Srt D := by rw [hxs] at hs; exact hs.right
    have hfD : ∀ y ∈ D, Fit y.f1 := fun y hy => hf y (by rw [hxs]; simp [hy])
    have hsum := ofSum_res (x :: R) 0 (by unfold Fit; omega) fun y hy => hf y (by rw [hxs]; exact List.mem_append_left _ hy)
    have hkey : ∀ y ∈ x :: R, y.f0 = x.f0 := fun y hy => ((cmpK_zero _ _).1 (hR y hy)).symm
    have hax : ams x.f0 (x :: xs) = (x :: R).map (·.f1) := by
      rw [hxs, ams_app, ams_all _ _ hR, ams_none _ D fun y hy e => by have := hD y hy; omega, List.append_nil]
    have rd0 : (rd_T55 (x :: xs) 0).f0 = x.f0 := rfl
    have hne : ¬ (x :: xs).length = 0 := by simp
    have st : ∀ k, ofGo (k + 1) (x :: xs) out = if (res (sumL 0 (ams x.f0 (x :: xs)))).2 = 0 then (if (res (sumL 0 (ams x.f0 (x :: xs)))).1 = 0 then ofGo k D out else if out.length < 1759218604441 then ofGo k D (out ++ [⟨x.f0, (res (sumL 0 (ams x.f0 (x :: xs)))).1⟩]) else none) else some ([], (res (sumL 0 (ams x.f0 (x :: xs)))).2) := fun k => by
      conv => lhs; unfold ofGo
      rw [if_neg hne, e1, hsum, Option.bind_some, e2, rd0, hax]
    have build : ∀ ks, RiseK ks → (∀ z, z ∈ ks ↔ ∃ y ∈ D, y.f0 = z) → RiseK (x.f0 :: ks) ∧ (∀ z, z ∈ x.f0 :: ks ↔ ∃ y ∈ x :: xs, y.f0 = z) ∧ (∀ o, gath (x :: xs) ks o = gath D ks o) := fun ks h1 h2 => by
      have lt : ∀ z ∈ ks, cmpK x.f0 z < 0 := fun z hz => by
        obtain ⟨y, hy, rfl⟩ := (h2 z).1 hz
        exact hD y hy
      refine ⟨List.pairwise_cons.2 ⟨lt, h1⟩, fun z => ⟨fun hz => ?_, fun hz => ?_⟩, fun o => gath_congr ks o fun z hz => ?_⟩
      · rcases List.mem_cons.1 hz with rfl | hz
        · exact ⟨x, by simp, rfl⟩
        · obtain ⟨y, hy, rfl⟩ := (h2 z).1 hz
          exact ⟨y, by rw [hxs]; exact List.mem_append_right _ hy, rfl⟩
      · obtain ⟨y, hy, rfl⟩ := hz
        rw [hxs] at hy
        rcases List.mem_append.1 hy with hy | hy
        · rw [hkey y hy]; simp
        · exact List.mem_cons_of_mem _ ((h2 _).2 ⟨y, hy, rfl⟩)
      · rw [hxs, ams_app, ams_none z (x :: R) fun y hy e => by
          rw [hkey y hy] at e
          have := lt z hz
          have := cmpK_good.anti x.f0 z
          omega]
        rfl
    cases hc : sumL 0 (ams x.f0 (x :: xs)) with
    | none =>
      obtain ⟨ks, h1, h2, _⟩ := ofGo_gath n D out (by omega) hsD hfD (by omega)
      obtain ⟨b1, b2, b3⟩ := build ks h1 h2
      refine ⟨_, b1, b2, Ev.some fun k => ?_⟩
      rw [st, hc]
      simp only [gath, hc]
      rfl
    | some m =>
      by_cases hm : m = 0
      · obtain ⟨ks, h1, h2, h3⟩ := ofGo_gath n D out (by omega) hsD hfD (by omega)
        obtain ⟨b1, b2, b3⟩ := build ks h1 h2
        refine ⟨_, b1, b2, ?_⟩
        simp only [gath, hc, if_pos hm, b3]
        refine Ev.step h3 fun k => ?_
        rw [st, hc, if_pos (show (res (some m)).2 = 0 from rfl), if_pos (show (res (some m)).1 = 0 from hm)]
      · obtain ⟨ks, h1, h2, h3⟩ := ofGo_gath n D (out ++ [⟨x.f0, m⟩]) (by omega) hsD hfD (by simp; omega)
        obtain ⟨b1, b2, b3⟩ := build ks h1 h2
        refine ⟨_, b1, b2, ?_⟩
        simp only [gath, hc, if_neg hm, b3]
        refine Ev.step h3 fun k => ?_
        rw [st, hc, if_pos (show (res (some m)).2 = 0 from rfl), if_neg (show ¬ (res (some m)).1 = 0 from hm), if_pos (by omega)]
        rfl
/-- fact.Of. -/
theorem Of_gath (l : List S55) (hl : l.length ≤ 1000000) (hf : ∀ y ∈ l, Fit y.f1) : ∃ ks, RiseK ks ∧ (∀ x, x ∈ ks ↔ ∃ y ∈ l, y.f0 = x) ∧ Ev (fun k => fact_Of.f k l) (gath l ks []) := by
  obtain ⟨F, f1, f2, f3⟩ := f33_ev l (by unfold Sm; omega)
  obtain ⟨ks, g1, g2, g3⟩ := ofGo_gath F.length F [] (Nat.le_refl _) f1.1 (fun y hy => hf y (f1.mem.1 hy)) (by simp; omega)
  refine ⟨ks, g1, fun x => (g2 x).trans ⟨fun ⟨y, hy, e⟩ => ⟨y, f1.mem.1 hy, e⟩, fun ⟨y, hy, e⟩ => ⟨y, f1.mem.2 hy, e⟩⟩, ?_⟩
  rw [← gath_congr ks [] fun x _ => f1.ams x]
  unfold fact_Of.f fact_Clone.f
  simp only [if_pos (show l.length < 1759218604441 by omega), Option.bind_some]
  exact Ev.bind (g := fun k s => ofGo k s []) f3 (by simpa using g3)
end Go.Proofs.Ytdckeflggcefbaa.Y
namespace Go.Proofs.Ytdckeflggcefbaa.Y
open Go.RowKit Go.Proofs.YtdckeflggcefbaaW.PrintWords Go.Proofs.YtdckeflggcefbaaW.PrintLast Go.Proofs.YtdckeflggcefbaaW.PrintMore
attribute [local go_sem] max2_int min2_int max_two min_two max_three min_three max_four min_four
set_option linter.unusedVariables false
set_option linter.unusedSimpArgs false

/-! ### comptrollerref09_keys: function 41 -/
mutual
def comptrollerref09_keys.l0 : Nat → List (S28) → List (S24) → Int → Option ((List (S24)))
 | 0, _, _, _ => none
 | k + 1, x0, x3, x4 => if x4 < (x0.length : Int) then (comptrollerref09_keys.l1 k x0 x3 x4 ([] : List (S24)) false 0) else (some x3)
def comptrollerref09_keys.l1 : Nat → List (S28) → List (S24) → Int → List (S24) → Bool → Int → Option ((List (S24)))
 | 0, _, _, _, _, _, _ => none
 | k + 1, x0, x3, x4, x5, x6, x7 => if x7 < (x3.length : Int) then (if 0 ≤ x4 then (if x4 < (x0.length : Int) then (if 0 ≤ x7 then ((comptrollerref09_Cmp.f k ((rd_T28 x0 x4).f0.f0) ((rd_T28 x0 x4).f0.f1) ((rd_T28 x0 x4).f0.f2) ((rd_T28 x0 x4).f0.f3) ((rd_T28 x0 x4).f0.f4) ((rd_T24 x3 x7).f0) ((rd_T24 x3 x7).f1) ((rd_T24 x3 x7).f2) ((rd_T24 x3 x7).f3) ((rd_T24 x3 x7).f4)).bind fun t265 => (if t265 = 0 then (if t265 < 0 then (if x5.length < 1954687338268 then (comptrollerref09_keys.l1 k x0 x3 x4 (x5 ++ [(⟨(rd_T24 x3 x7).f0, (rd_T24 x3 x7).f1, (rd_T24 x3 x7).f2, (rd_T24 x3 x7).f3, (rd_T24 x3 x7).f4⟩ : S24)]) true (wrap64 (x7 + 1))) else (none)) else (if x5.length < 1954687338268 then (comptrollerref09_keys.l1 k x0 x3 x4 (x5 ++ [(⟨(rd_T24 x3 x7).f0, (rd_T24 x3 x7).f1, (rd_T24 x3 x7).f2, (rd_T24 x3 x7).f3, (rd_T24 x3 x7).f4⟩ : S24)]) true (wrap64 (x7 + 1))) else (none))) else (if t265 < 0 then (if x6 = true then (if x5.length < 1954687338268 then (comptrollerref09_keys.l1 k x0 x3 x4 (x5 ++ [(⟨(rd_T24 x3 x7).f0, (rd_T24 x3 x7).f1, (rd_T24 x3 x7).f2, (rd_T24 x3 x7).f3, (rd_T24 x3 x7).f4⟩ : S24)]) x6 (wrap64 (x7 + 1))) else (none)) else (if x5.length < 1954687338268 then ((some (x5 ++ [(⟨(rd_T28 x0 x4).f0.f0, (rd_T28 x0 x4).f0.f1, (rd_T28 x0 x4).f0.f2, (rd_T28 x0 x4).f0.f3, (rd_T28 x0 x4).f0.f4⟩ : S24)] : List (S24))).bind fun y279 => (if y279.length < 1954687338268 then (comptrollerref09_keys.l1 k x0 x3 x4 (y279 ++ [(⟨(rd_T24 x3 x7).f0, (rd_T24 x3 x7).f1, (rd_T24 x3 x7).f2, (rd_T24 x3 x7).f3, (rd_T24 x3 x7).f4⟩ : S24)]) true (wrap64 (x7 + 1))) else (none))) else (none))) else (if x5.length < 1954687338268 then (comptrollerref09_keys.l1 k x0 x3 x4 (x5 ++ [(⟨(rd_T24 x3 x7).f0, (rd_T24 x3 x7).f1, (rd_T24 x3 x7).f2, (rd_T24 x3 x7).f3, (rd_T24 x3 x7).f4⟩ : S24)]) x6 (wrap64 (x7 + 1))) else (none))))) else (none)) else (none)) else (none)) else (if x6 = true then (comptrollerref09_keys.l0 k x0 x5 (wrap64 (x4 + 1))) else (if 0 ≤ x4 then (if x4 < (x0.length : Int) then (if x5.length < 1954687338268 then (comptrollerref09_keys.l0 k x0 (x5 ++ [(⟨(rd_T28 x0 x4).f0.f0, (rd_T28 x0 x4).f0.f1, (rd_T28 x0 x4).f0.f2, (rd_T28 x0 x4).f0.f3, (rd_T28 x0 x4).f0.f4⟩ : S24)]) (wrap64 (x4 + 1))) else (none)) else (none)) else (none)))
end
def comptrollerref09_keys.f (k : Nat) (l0 : List (S28)) : Option ((List (S24))) := comptrollerref09_keys.l0 k l0 ([] : List (S24)) 0
theorem comptrollerref09_keys.mono_l : ∀ k, (∀ y0 y1 y2, LeO (comptrollerref09_keys.l0 k y0 y1 y2) (comptrollerref09_keys.l0 (k + 1) y0 y1 y2)) ∧ (∀ y0 y1 y2 y3 y4 y5, LeO (comptrollerref09_keys.l1 k y0 y1 y2 y3 y4 y5) (comptrollerref09_keys.l1 (k + 1) y0 y1 y2 y3 y4 y5))
 | 0 => ⟨fun _ _ _ r h => by simp [comptrollerref09_keys.l0] at h, fun _ _ _ _ _ _ r h => by simp [comptrollerref09_keys.l1] at h⟩
 | k + 1 => by
  obtain ⟨ih0, ih1⟩ := comptrollerref09_keys.mono_l k
  refine ⟨?_, ?_⟩
  ·intro y0 y1 y2
   unfold comptrollerref09_keys.l0
   with_reducible repeat' first | apply ih0 | apply ih1 | apply comptrollerref09_Cmp.mono | refine LeO.refl _ | refine LeO.none _ | refine LeO.ite ?_ ?_ | refine LeO.bind ?_ (fun _ => ?_)
  ·intro y0 y1 y2 y3 y4 y5
   unfold comptrollerref09_keys.l1
   with_reducible repeat' first | apply ih0 | apply ih1 | apply comptrollerref09_Cmp.mono | refine LeO.refl _ | refine LeO.none _ | refine LeO.ite ?_ ?_ | refine LeO.bind ?_ (fun _ => ?_)
theorem comptrollerref09_keys.mono : ∀ a0 k, LeO (comptrollerref09_keys.f k a0) (comptrollerref09_keys.f (k + 1) a0) := by
 intro a0 k
 obtain ⟨ih0, ih1⟩ := comptrollerref09_keys.mono_l k
 unfold comptrollerref09_keys.f
 with_reducible repeat' first | apply ih0 | apply ih1 | apply comptrollerref09_Cmp.mono | refine LeO.refl _ | refine LeO.none _ | refine LeO.ite ?_ ?_ | refine LeO.bind ?_ (fun _ => ?_)
def comptrollerref09_keys.T10 : Bool × List (List Nat × List Nat) := (true, [([], []), ([], []), ([0, 1], [0, 1]), ([2], [2]), ([3], [3]), ([], []), ([], []), ([5, 6], [5, 6]), ([7], [7]), ([4, 8], [4, 8]), ([9, 9, 0, 1, 2, 3, 4, 5, 6, 7, 8, 9], [9])])
def comptrollerref09_keys.B10 : List Nat := [0, 0, 3, 7, 15, 0, 0, 96, 224, 511, 1023]
theorem comptrollerref09_keys.tab10 : rtab .any (opsOf Try.f41 10) = comptrollerref09_keys.T10 := by kernel_rfl
theorem comptrollerref09_keys.bits10 : waitsOk comptrollerref09_keys.T10.2 comptrollerref09_keys.B10 = true := by kernel_rfl
set_option maxHeartbeats 8000000 in
set_option maxRecDepth 100000 in
theorem comptrollerref09_keys.calls (k : Nat) (A0 : Option Addr) (c0 : Nat) (l0 : List (S28)) (r : List (S24)) (w : World) (hr0 : Kd.C k28 w A0 l0.length l0) (hc0 : l0.length ≤ c0) (h : comptrollerref09_keys.f k l0 = some r) :
  Calls Try.prog 41 #[.slice A0 l0.length c0] w fun e w' => ∃ v0_ : Value, e = .returned (v0_) ∧ Kd.R k24 24 w' w.heap.size (fun _ => True) v0_ r ∧ Below w.heap.size w w' := by
 have hu24 := Try.underlying24; have HR0 := Aside0.mk hr0; have HC0 := Aside0.mk hc0; clear hr0 hc0
 have HB := Aside0.mk (Below.refl w.heap.size w)
 have H : (comptrollerref09_keys.l0 k l0 ([] : List (S24)) 0) = some r := h
 clear h
 have H' := Aside0.mk H
 clear H
 go_enter Try.func41, Try.ntmps41
 go_wp2
 go_loopg [3, 4] k (fun kq v3 v4 w' => ∃ (x3_1 : List (S24)) (x4_1 : Int), v4 = .int .i64 x4_1 ∧ Aside0 (comptrollerref09_keys.l0 kq l0 x3_1 x4_1 = some r) ∧ Aside0 (kq ≤ k) ∧ Aside0 (Kd.R k24 24 w' w.heap.size (fun _ => True) v3 x3_1) ∧ Aside0 (Below w.heap.size w w'))
 case atStart => exact ⟨(([] : List (S24))), (0), rs_, H', ⟨Nat.le_refl _⟩, ⟨by first | exact Kd.R_nil _ _ _ _ _ | exact Kd.N_nil _ _ _ _ _ | exact Kd.V_nil _ _ _ _ _ | exact Kd.Q_nil _ _ _ _ _ | exact Kd.S_nil _ _ _ _ _⟩, ⟨bw⟩⟩
 case round =>
  clear H'
  obtain ⟨x3_1, x4_1, rfl, HA, HK1, HO_3, HB⟩ := hrel
  cases gk with
  | zero => exact absurd HA.out (by simp [comptrollerref09_keys.l0])
  | succ k1 =>
   have H := HA.out; clear HA
   simp only [comptrollerref09_keys.l0] at H
   by_cases c2 : x4_1 < (l0.length : Int)
   ·rw [if_pos c2] at H
    have c2b0 : decide (x4_1 < (l0.length : Int)) = true := decide_eq_true c2
    clear c2
    have H' := Aside0.mk H
    clear H; go_wp2
    go_loopg [5, 6, 7] k1 (fun kq v5 v6 v7 w' => ∃ (x5_2 : List (S24)) (x6_2 : Bool) (x7_2 : Int), v6 = .bool x6_2 ∧ v7 = .int .i64 x7_2 ∧ Aside0 (comptrollerref09_keys.l1 kq l0 x3_1 x4_1 x5_2 x6_2 x7_2 = some r) ∧ Aside0 (kq ≤ k1) ∧ Aside0 (Kd.R k24 24 w' w.heap.size (fun k_ => some k_ ≠ (v5 : Value).ownBlock) u3 x3_1) ∧ Aside0 (Kd.R k24 24 w' w.heap.size (fun k_ => some k_ ≠ (u3 : Value).ownBlock) v5 x5_2) ∧ Aside0 (Below w.heap.size w w'))
    case atStart => exact ⟨(([] : List (S24))), (false), (0), rs_, rs_, H', ⟨Nat.le_refl _⟩, ⟨by (with_reducible repeat (first | apply Kd.R_alloc | apply Kd.R_drewN | apply Kd.R_drew)); exact Kd.R_mono HO_3.out (fun _ hk => (by simp [Value.ownBlock]))⟩, ⟨by first | exact Kd.R_nil _ _ _ _ _ | exact Kd.N_nil _ _ _ _ _ | exact Kd.V_nil _ _ _ _ _ | exact Kd.Q_nil _ _ _ _ _ | exact Kd.S_nil _ _ _ _ _⟩, ⟨bw⟩⟩
    case round =>
     clear H'
     (try clear c2); (try clear c2b0); (try clear p2)
     obtain ⟨x5_2, x6_2, x7_2, rfl, rfl, HA, HK2, HO_3, HO_5, HB⟩ := hrel
     cases gk with
     | zero => exact absurd HA.out (by simp [comptrollerref09_keys.l1])
     | succ k2 =>
      have H := HA.out; clear HA
      simp only [comptrollerref09_keys.l1] at H
      by_cases c3 : x7_2 < (x3_1.length : Int)
      ·rw [if_pos c3] at H
       have c3b0 : decide (x7_2 < (x3_1.length : Int)) = true := decide_eq_true c3
       clear c3
       by_cases c4 : 0 ≤ x4_1
       ·rw [if_pos c4] at H
        have c4b0 : decide (0 ≤ x4_1) = true := decide_eq_true c4
        clear c4
        by_cases c5 : x4_1 < (l0.length : Int)
        ·rw [if_pos c5] at H
         have c5b0 : decide (x4_1 < (l0.length : Int)) = true := decide_eq_true c5
         clear c5
         by_cases c6 : 0 ≤ x7_2
         ·rw [if_pos c6] at H
          have c6b0 : decide (0 ≤ x7_2) = true := decide_eq_true c6
          clear c6
          replace H := Option.bind_eq_some_iff.mp H
          obtain ⟨t265, A70, H⟩ := H
          replace H : (if t265 = 0 then (if t265 < 0 then (if x5_2.length < 1954687338268 then (comptrollerref09_keys.l1 k2 l0 x3_1 x4_1 (x5_2 ++ [(⟨(rd_T24 x3_1 x7_2).f0, (rd_T24 x3_1 x7_2).f1, (rd_T24 x3_1 x7_2).f2, (rd_T24 x3_1 x7_2).f3, (rd_T24 x3_1 x7_2).f4⟩ : S24)]) true (wrap64 (x7_2 + 1))) else (none)) else (if x5_2.length < 1954687338268 then (comptrollerref09_keys.l1 k2 l0 x3_1 x4_1 (x5_2 ++ [(⟨(rd_T24 x3_1 x7_2).f0, (rd_T24 x3_1 x7_2).f1, (rd_T24 x3_1 x7_2).f2, (rd_T24 x3_1 x7_2).f3, (rd_T24 x3_1 x7_2).f4⟩ : S24)]) true (wrap64 (x7_2 + 1))) else (none))) else (if t265 < 0 then (if x6_2 = true then (if x5_2.length < 1954687338268 then (comptrollerref09_keys.l1 k2 l0 x3_1 x4_1 (x5_2 ++ [(⟨(rd_T24 x3_1 x7_2).f0, (rd_T24 x3_1 x7_2).f1, (rd_T24 x3_1 x7_2).f2, (rd_T24 x3_1 x7_2).f3, (rd_T24 x3_1 x7_2).f4⟩ : S24)]) x6_2 (wrap64 (x7_2 + 1))) else (none)) else (if x5_2.length < 1954687338268 then ((some (x5_2 ++ [(⟨(rd_T28 l0 x4_1).f0.f0, (rd_T28 l0 x4_1).f0.f1, (rd_T28 l0 x4_1).f0.f2, (rd_T28 l0 x4_1).f0.f3, (rd_T28 l0 x4_1).f0.f4⟩ : S24)] : List (S24))).bind fun y279 => (if y279.length < 1954687338268 then (comptrollerref09_keys.l1 k2 l0 x3_1 x4_1 (y279 ++ [(⟨(rd_T24 x3_1 x7_2).f0, (rd_T24 x3_1 x7_2).f1, (rd_T24 x3_1 x7_2).f2, (rd_T24 x3_1 x7_2).f3, (rd_T24 x3_1 x7_2).f4⟩ : S24)]) true (wrap64 (x7_2 + 1))) else (none))) else (none))) else (if x5_2.length < 1954687338268 then (comptrollerref09_keys.l1 k2 l0 x3_1 x4_1 (x5_2 ++ [(⟨(rd_T24 x3_1 x7_2).f0, (rd_T24 x3_1 x7_2).f1, (rd_T24 x3_1 x7_2).f2, (rd_T24 x3_1 x7_2).f3, (rd_T24 x3_1 x7_2).f4⟩ : S24)]) x6_2 (wrap64 (x7_2 + 1))) else (none)))) = some r := H
          have A7 := Aside0.mk A70; clear A70
          by_cases c8 : t265 = 0
          ·rw [if_pos c8] at H
           have c8b0 : (t265 == 0) = true := beq_iff_eq.mpr c8
           have c8b1 : (t265 != 0) = false := bne_eq_false_iff_eq.mpr c8
           clear c8
           by_cases c9 : t265 < 0
           ·rw [if_pos c9] at H
            have c9b0 : decide (t265 < 0) = true := decide_eq_true c9
            clear c9
            by_cases c10 : x5_2.length < 1954687338268
            ·rw [if_pos c10] at H; have LMc10 := Aside0.mk c10; clear c10
             obtain ⟨y267, hy267⟩ : ∃ y_ : List (S24), y_ = (x5_2 ++ [(⟨(rd_T24 x3_1 x7_2).f0, (rd_T24 x3_1 x7_2).f1, (rd_T24 x3_1 x7_2).f2, (rd_T24 x3_1 x7_2).f3, (rd_T24 x3_1 x7_2).f4⟩ : S24)]) := ⟨_, rfl⟩
             replace H : (comptrollerref09_keys.l1 k2 l0 x3_1 x4_1 y267 true (wrap64 (x7_2 + 1))) = some r := rh hy267 H
             have Ny267 := Aside0.mk hy267; clear hy267
             have H' := Aside0.mk H
             clear H
             obtain ⟨Ao11, co11, eo11⟩ := Kd.R_slice HO_3.out
             subst eo11
             try go_wp2
             have n0_ := Aside0.mk (Kd.R_drew HO_3.out)
             have n1_ := Aside0.mk (Kd.R_drew HO_5.out)
             have n2_ := Aside0.mk (below_drew1 HB.out)
             clear HO_3 HO_5 HB; have HO_3 := n0_; have HO_5 := n1_; have HB := n2_; clear n0_ n1_ n2_
             have p263 : 0 ≤ (x4_1 : Int) := of_decide_eq_true as_
             have q263 : x4_1 < (l0.length : Int) := of_decide_eq_true as_
             obtain ⟨ad263, e263, hx263_0, hx263_1, hx263_2, hx263_3, hx263_4, hx263_5⟩ := at_T28 HR0.out x4_1 p263 q263
             have hw263_5 := hx263_5; have hw263_4 := hx263_4; have hw263_3 := hx263_3; have hw263_2 := hx263_2; have hw263_1 := hx263_1; have hw263_0 := hx263_0; cases e263; replace hx263_0 := cb HB hx263_0; replace hx263_1 := cb HB hx263_1; replace hx263_2 := cb HB hx263_2; replace hx263_3 := cb HB hx263_3; replace hx263_4 := cb HB hx263_4; replace hx263_5 := cb HB hx263_5; replace p263 := eq_true p263; replace q263 := eq_true q263
             have p264 : 0 ≤ (x7_2 : Int) := of_decide_eq_true as_
             have q264 : x7_2 < (x3_1.length : Int) := of_decide_eq_true as_
             obtain ⟨ad264, e264, hx264_0, hx264_1, hx264_2, hx264_3, hx264_4⟩ := at_T24 (Kd.R_reads' HO_3.out).2.2 x7_2 p264 q264
             cases e264; replace p264 := eq_true p264; replace q264 := eq_true q264
             refine start_ (n := 11) (S := fun w' => w'.cell? (ad263.add ((x4_1).toNat * 6)) = some (.string ((rd_T28 l0 x4_1).f0.f0)) ∧ w'.cell? ⟨(ad263.add ((x4_1).toNat * 6)).block, (ad263.add ((x4_1).toNat * 6)).off + 1, none⟩ = some (.string ((rd_T28 l0 x4_1).f0.f1)) ∧ w'.cell? ⟨(ad263.add ((x4_1).toNat * 6)).block, (ad263.add ((x4_1).toNat * 6)).off + 2, none⟩ = some (.string ((rd_T28 l0 x4_1).f0.f2)) ∧ w'.cell? ⟨(ad263.add ((x4_1).toNat * 6)).block, (ad263.add ((x4_1).toNat * 6)).off + 3, none⟩ = some (.string ((rd_T28 l0 x4_1).f0.f3)) ∧ w'.cell? ⟨(ad263.add ((x4_1).toNat * 6)).block, (ad263.add ((x4_1).toNat * 6)).off + 4, none⟩ = some (.int .i64 ((rd_T28 l0 x4_1).f0.f4)) ∧ w'.cell? ⟨(ad263.add ((x4_1).toNat * 6)).block, (ad263.add ((x4_1).toNat * 6)).off + 5, none⟩ = some (.int .i64 ((rd_T28 l0 x4_1).f1)) ∧ w'.cell? (ad264.add ((x7_2).toNat * 5)) = some (.string ((rd_T24 x3_1 x7_2).f0)) ∧ w'.cell? ⟨(ad264.add ((x7_2).toNat * 5)).block, (ad264.add ((x7_2).toNat * 5)).off + 1, none⟩ = some (.string ((rd_T24 x3_1 x7_2).f1)) ∧ w'.cell? ⟨(ad264.add ((x7_2).toNat * 5)).block, (ad264.add ((x7_2).toNat * 5)).off + 2, none⟩ = some (.string ((rd_T24 x3_1 x7_2).f2)) ∧ w'.cell? ⟨(ad264.add ((x7_2).toNat * 5)).block, (ad264.add ((x7_2).toNat * 5)).off + 3, none⟩ = some (.string ((rd_T24 x3_1 x7_2).f3)) ∧ w'.cell? ⟨(ad264.add ((x7_2).toNat * 5)).block, (ad264.add ((x7_2).toNat * 5)).off + 4, none⟩ = some (.int .i64 ((rd_T24 x3_1 x7_2).f4))) (ds := []) (fl 11 0) (by kernel_rfl) rfl rfl ⟨(cb HB hw263_0), (cb HB hw263_1), (cb HB hw263_2), (cb HB hw263_3), (cb HB hw263_4), (cb HB hw263_5), hx264_0, hx264_1, hx264_2, hx264_3, hx264_4⟩ (fun hHeld => ?_); refine with_tabW comptrollerref09_keys.tab10 comptrollerref09_keys.bits10 (fun HT_ HW_ => ?_)
             generalize wr.drew = w12 at HO_3 HO_5 HB hx263_0 hx263_1 hx263_2 hx263_3 hx263_4 hx263_5 hx264_0 hx264_1 hx264_2 hx264_3 hx264_4 hHeld ⊢
             refine pu 0 (some 21) (fl 11 1) HT_ ?_
             refine pu 1 (some 22) (fl 11 3) HT_ ?_
             refine pu 2 (some 23) (fl 11 7) HT_ ?_
             refine pu 3 (some 24) (fl 11 15) HT_ ?_
             refine pu 5 (some 26) (fl 11 47) HT_ ?_
             refine pu 6 (some 27) (fl 11 111) HT_ ?_
             refine pu 7 (some 28) (fl 11 239) HT_ ?_
             refine tu 4 (some 25) (fl 11 255) HT_ HW_ hHeld ?_
             refine tu 8 (some 29) (fl 11 511) HT_ HW_ hHeld ?_
             refine one_ (i := 9) (N := some 30) (fl 11 1023) rfl rfl (one_of HT_.out (by kernel_rfl)) (by decide) (fun K hK => ?_)
             refine goes_ Try.func24 (by kernel_rfl) rfl #[.agg #[.string ((rd_T28 l0 x4_1).f0.f0), .string ((rd_T28 l0 x4_1).f0.f1), .string ((rd_T28 l0 x4_1).f0.f2), .string ((rd_T28 l0 x4_1).f0.f3), .int .i64 ((rd_T28 l0 x4_1).f0.f4)], .agg #[.string ((rd_T24 x3_1 x7_2).f0), .string ((rd_T24 x3_1 x7_2).f1), .string ((rd_T24 x3_1 x7_2).f2), .string ((rd_T24 x3_1 x7_2).f3), .int .i64 ((rd_T24 x3_1 x7_2).f4)]] (by rfl) rfl rfl mp_ ?_
             with_reducible refine (comptrollerref09_Cmp.calls k2 ((rd_T28 l0 x4_1).f0.f0) ((rd_T28 l0 x4_1).f0.f1) ((rd_T28 l0 x4_1).f0.f2) ((rd_T28 l0 x4_1).f0.f3) ((rd_T28 l0 x4_1).f0.f4) ((rd_T24 x3_1 x7_2).f0) ((rd_T24 x3_1 x7_2).f1) ((rd_T24 x3_1 x7_2).f2) ((rd_T24 x3_1 x7_2).f3) ((rd_T24 x3_1 x7_2).f4) t265 _ A7.out).mono ?_
             rintro e w13 ⟨rfl, hb⟩
             have HS6_ := cb2 hb hHeld.2.2.2.2.2.2.1
             have HS7_ := cb2 hb hHeld.2.2.2.2.2.2.2.1
             have HS8_ := cb2 hb hHeld.2.2.2.2.2.2.2.2.1
             have HS9_ := cb2 hb hHeld.2.2.2.2.2.2.2.2.2.1
             have HS10_ := cb2 hb hHeld.2.2.2.2.2.2.2.2.2.2
             refine ⟨_, rfl, ?_⟩
             have n0_ := Aside0.mk (Kd.R_below (kr HO_3) hb)
             have n1_ := Aside0.mk (Kd.R_below (kr HO_5) hb)
             have n2_ := Aside0.mk (below_step bw hb)
             clear HO_3 HO_5 HB; have HO_3 := n0_; have HO_5 := n1_; have HB := n2_; clear n0_ n1_ n2_
             (try clear hb)
             (try clear hb2)
             (try clear hk)
             (try clear hi)
             refine hK.out _ _ ⟨(cb HB hw263_0), (cb HB hw263_1), (cb HB hw263_2), (cb HB hw263_3), (cb HB hw263_4), (cb HB hw263_5), HS6_, HS7_, HS8_, HS9_, HS10_⟩ (fun hHeld => ?_)
             clear hK K
             refine norm_ (a' := ?_) ?_ ?_
             rotate_left
             ·show Act.put _ (some 30) _ = _
              simp only [Act.put, List.setIfInBounds_toArray, List.set_cons_zero, List.set_cons_succ, i64_w, i32_w]
              rfl
             refine pu 10 (some 8) (fl 11 2047) HT_ ?_
             refine done_ (done_of HT_.out (by kernel_rfl)) ?_
             have p266 : 0 ≤ (x7_2 : Int) := of_decide_eq_true as_
             have q266 : x7_2 < (x3_1.length : Int) := of_decide_eq_true as_
             obtain ⟨ad266, e266, hx266_0, hx266_1, hx266_2, hx266_3, hx266_4⟩ := at_T24 (Kd.R_reads' HO_3.out).2.2 x7_2 p266 q266
             obtain rfl : ad264 = ad266 := (by injection e266)
             replace p266 := eq_true p266; replace q266 := eq_true q266
             try go_wp2_with (first | ((with_reducible refine gate_builtin (b := .append) (xs := #[.tmp 47, .tmp 52]) rfl ?_); at_builtin; refine Kd.R_append k24 (w0 := w) w.heap.size rfl (.tmp 47) (.tmp 52) 79 24 (.agg #[(.string ⟨#[]⟩), (.string ⟨#[]⟩), (.string ⟨#[]⟩), (.string ⟨#[]⟩), (.int .i64 0)]) 72 rfl Try.underlying79 info24 rfl (by decide) (by omega) u5 x5_2 (⟨(rd_T24 x3_1 x7_2).f0, (rd_T24 x3_1 x7_2).f1, (rd_T24 x3_1 x7_2).f2, (rd_T24 x3_1 x7_2).f3, (rd_T24 x3_1 x7_2).f4⟩ : S24) [.string ((rd_T24 x3_1 x7_2).f0), .string ((rd_T24 x3_1 x7_2).f1), .string ((rd_T24 x3_1 x7_2).f2), .string ((rd_T24 x3_1 x7_2).f3), .int .i64 ((rd_T24 x3_1 x7_2).f4)] (fun k_ => some k_ ≠ (.slice (some ad264) x3_1.length co11 : Value).ownBlock) (fun _ => False) rfl rfl ?aP (fun _ hk => hk.elim) ?aF ?aO ?aB ?aS ?aL ?_; (case aP => exact k24_mkM _ _ _ (⟨(rd_T24 x3_1 x7_2).f0, (rd_T24 x3_1 x7_2).f1, (rd_T24 x3_1 x7_2).f2, (rd_T24 x3_1 x7_2).f3, (rd_T24 x3_1 x7_2).f4⟩ : S24)); (case aB => exact bw); (case aF => exact (fun k_ hk => Kd.fresh' (Kd.R_lt (kr HO_3)) k_ hk)); (case aO => exact (kr HO_5)); (case aS => exact (below_size bw)); (case aL => have := LMc10.out; omega); intro v268 w14 ho hb hg hat; rw [← Ny267.out] at ho; have n0_ := Aside0.mk (Kd.R_after (ok := (fun _ => True)) (by (with_reducible repeat (first | apply Kd.R_alloc | apply Kd.R_drewN | apply Kd.R_drew)); exact Kd.R_mono HO_3.out (fun _ hk => ⟨trivial, hk⟩)) hg hat); have n1_ := Aside0.mk (hb); have n2_ := Aside0.mk (ho); clear HO_3; clear HB; clear HO_5; have HO_3 := n0_; have HB := n1_; have HO269 := n2_; clear n0_ n1_ n2_; clear ho hb hg hat))
             go_roundg k2
             case measure => have := HK1.out; have := HK2.out; omega
             case rel => exact ⟨(y267), (true), (wrap64 (x7_2 + 1)), rs_, rs_, H', ⟨by have := HK1.out; have := HK2.out; omega⟩, ⟨by (with_reducible repeat (first | apply Kd.R_alloc | apply Kd.R_drewN | apply Kd.R_drew)); exact Kd.R_mono HO_3.out (fun _ hk => hk.2)⟩, ⟨kr HO269⟩, ⟨bw⟩⟩
            ·rw [if_neg c10] at H
             exact absurd H (by simp)
           ·rw [if_neg c9] at H
            have c9b0 : decide (t265 < 0) = false := decide_eq_false c9
            clear c9
            by_cases c15 : x5_2.length < 1954687338268
            ·rw [if_pos c15] at H; have LMc15 := Aside0.mk c15; clear c15
             obtain ⟨y271, hy271⟩ : ∃ y_ : List (S24), y_ = (x5_2 ++ [(⟨(rd_T24 x3_1 x7_2).f0, (rd_T24 x3_1 x7_2).f1, (rd_T24 x3_1 x7_2).f2, (rd_T24 x3_1 x7_2).f3, (rd_T24 x3_1 x7_2).f4⟩ : S24)]) := ⟨_, rfl⟩
             replace H : (comptrollerref09_keys.l1 k2 l0 x3_1 x4_1 y271 true (wrap64 (x7_2 + 1))) = some r := rh hy271 H
             have Ny271 := Aside0.mk hy271; clear hy271
             have H' := Aside0.mk H
             clear H
             obtain ⟨Ao16, co16, eo16⟩ := Kd.R_slice HO_3.out
             subst eo16
             try go_wp2
             have n0_ := Aside0.mk (Kd.R_drew HO_3.out)
             have n1_ := Aside0.mk (Kd.R_drew HO_5.out)
             have n2_ := Aside0.mk (below_drew1 HB.out)
             clear HO_3 HO_5 HB; have HO_3 := n0_; have HO_5 := n1_; have HB := n2_; clear n0_ n1_ n2_
             have p263 : 0 ≤ (x4_1 : Int) := of_decide_eq_true as_
             have q263 : x4_1 < (l0.length : Int) := of_decide_eq_true as_
             obtain ⟨ad263, e263, hx263_0, hx263_1, hx263_2, hx263_3, hx263_4, hx263_5⟩ := at_T28 HR0.out x4_1 p263 q263
             have hw263_5 := hx263_5; have hw263_4 := hx263_4; have hw263_3 := hx263_3; have hw263_2 := hx263_2; have hw263_1 := hx263_1; have hw263_0 := hx263_0; cases e263; replace hx263_0 := cb HB hx263_0; replace hx263_1 := cb HB hx263_1; replace hx263_2 := cb HB hx263_2; replace hx263_3 := cb HB hx263_3; replace hx263_4 := cb HB hx263_4; replace hx263_5 := cb HB hx263_5; replace p263 := eq_true p263; replace q263 := eq_true q263
             have p264 : 0 ≤ (x7_2 : Int) := of_decide_eq_true as_
             have q264 : x7_2 < (x3_1.length : Int) := of_decide_eq_true as_
             obtain ⟨ad264, e264, hx264_0, hx264_1, hx264_2, hx264_3, hx264_4⟩ := at_T24 (Kd.R_reads' HO_3.out).2.2 x7_2 p264 q264
             cases e264; replace p264 := eq_true p264; replace q264 := eq_true q264
             refine start_ (n := 11) (S := fun w' => w'.cell? (ad263.add ((x4_1).toNat * 6)) = some (.string ((rd_T28 l0 x4_1).f0.f0)) ∧ w'.cell? ⟨(ad263.add ((x4_1).toNat * 6)).block, (ad263.add ((x4_1).toNat * 6)).off + 1, none⟩ = some (.string ((rd_T28 l0 x4_1).f0.f1)) ∧ w'.cell? ⟨(ad263.add ((x4_1).toNat * 6)).block, (ad263.add ((x4_1).toNat * 6)).off + 2, none⟩ = some (.string ((rd_T28 l0 x4_1).f0.f2)) ∧ w'.cell? ⟨(ad263.add ((x4_1).toNat * 6)).block, (ad263.add ((x4_1).toNat * 6)).off + 3, none⟩ = some (.string ((rd_T28 l0 x4_1).f0.f3)) ∧ w'.cell? ⟨(ad263.add ((x4_1).toNat * 6)).block, (ad263.add ((x4_1).toNat * 6)).off + 4, none⟩ = some (.int .i64 ((rd_T28 l0 x4_1).f0.f4)) ∧ w'.cell? ⟨(ad263.add ((x4_1).toNat * 6)).block, (ad263.add ((x4_1).toNat * 6)).off + 5, none⟩ = some (.int .i64 ((rd_T28 l0 x4_1).f1)) ∧ w'.cell? (ad264.add ((x7_2).toNat * 5)) = some (.string ((rd_T24 x3_1 x7_2).f0)) ∧ w'.cell? ⟨(ad264.add ((x7_2).toNat * 5)).block, (ad264.add ((x7_2).toNat * 5)).off + 1, none⟩ = some (.string ((rd_T24 x3_1 x7_2).f1)) ∧ w'.cell? ⟨(ad264.add ((x7_2).toNat * 5)).block, (ad264.add ((x7_2).toNat * 5)).off + 2, none⟩ = some (.string ((rd_T24 x3_1 x7_2).f2)) ∧ w'.cell? ⟨(ad264.add ((x7_2).toNat * 5)).block, (ad264.add ((x7_2).toNat * 5)).off + 3, none⟩ = some (.string ((rd_T24 x3_1 x7_2).f3)) ∧ w'.cell? ⟨(ad264.add ((x7_2).toNat * 5)).block, (ad264.add ((x7_2).toNat * 5)).off + 4, none⟩ = some (.int .i64 ((rd_T24 x3_1 x7_2).f4))) (ds := []) (fl 11 0) (by kernel_rfl) rfl rfl ⟨(cb HB hw263_0), (cb HB hw263_1), (cb HB hw263_2), (cb HB hw263_3), (cb HB hw263_4), (cb HB hw263_5), hx264_0, hx264_1, hx264_2, hx264_3, hx264_4⟩ (fun hHeld => ?_); refine with_tabW comptrollerref09_keys.tab10 comptrollerref09_keys.bits10 (fun HT_ HW_ => ?_)
             generalize wr.drew = w17 at HO_3 HO_5 HB hx263_0 hx263_1 hx263_2 hx263_3 hx263_4 hx263_5 hx264_0 hx264_1 hx264_2 hx264_3 hx264_4 hHeld ⊢
             refine pu 0 (some 21) (fl 11 1) HT_ ?_
             refine pu 1 (some 22) (fl 11 3) HT_ ?_
             refine pu 2 (some 23) (fl 11 7) HT_ ?_
             refine pu 3 (some 24) (fl 11 15) HT_ ?_
             refine pu 5 (some 26) (fl 11 47) HT_ ?_
             refine pu 6 (some 27) (fl 11 111) HT_ ?_
             refine pu 7 (some 28) (fl 11 239) HT_ ?_
             refine tu 4 (some 25) (fl 11 255) HT_ HW_ hHeld ?_
             refine tu 8 (some 29) (fl 11 511) HT_ HW_ hHeld ?_
             refine one_ (i := 9) (N := some 30) (fl 11 1023) rfl rfl (one_of HT_.out (by kernel_rfl)) (by decide) (fun K hK => ?_)
             refine goes_ Try.func24 (by kernel_rfl) rfl #[.agg #[.string ((rd_T28 l0 x4_1).f0.f0), .string ((rd_T28 l0 x4_1).f0.f1), .string ((rd_T28 l0 x4_1).f0.f2), .string ((rd_T28 l0 x4_1).f0.f3), .int .i64 ((rd_T28 l0 x4_1).f0.f4)], .agg #[.string ((rd_T24 x3_1 x7_2).f0), .string ((rd_T24 x3_1 x7_2).f1), .string ((rd_T24 x3_1 x7_2).f2), .string ((rd_T24 x3_1 x7_2).f3), .int .i64 ((rd_T24 x3_1 x7_2).f4)]] (by rfl) rfl rfl mp_ ?_
             with_reducible refine (comptrollerref09_Cmp.calls k2 ((rd_T28 l0 x4_1).f0.f0) ((rd_T28 l0 x4_1).f0.f1) ((rd_T28 l0 x4_1).f0.f2) ((rd_T28 l0 x4_1).f0.f3) ((rd_T28 l0 x4_1).f0.f4) ((rd_T24 x3_1 x7_2).f0) ((rd_T24 x3_1 x7_2).f1) ((rd_T24 x3_1 x7_2).f2) ((rd_T24 x3_1 x7_2).f3) ((rd_T24 x3_1 x7_2).f4) t265 _ A7.out).mono ?_
             rintro e w18 ⟨rfl, hb⟩
             have HS6_ := cb2 hb hHeld.2.2.2.2.2.2.1
             have HS7_ := cb2 hb hHeld.2.2.2.2.2.2.2.1
             have HS8_ := cb2 hb hHeld.2.2.2.2.2.2.2.2.1
             have HS9_ := cb2 hb hHeld.2.2.2.2.2.2.2.2.2.1
             have HS10_ := cb2 hb hHeld.2.2.2.2.2.2.2.2.2.2
             refine ⟨_, rfl, ?_⟩
             have n0_ := Aside0.mk (Kd.R_below (kr HO_3) hb)
             have n1_ := Aside0.mk (Kd.R_below (kr HO_5) hb)
             have n2_ := Aside0.mk (below_step bw hb)
             clear HO_3 HO_5 HB; have HO_3 := n0_; have HO_5 := n1_; have HB := n2_; clear n0_ n1_ n2_
             (try clear hb)
             (try clear hb2)
             (try clear hk)
             (try clear hi)
             refine hK.out _ _ ⟨(cb HB hw263_0), (cb HB hw263_1), (cb HB hw263_2), (cb HB hw263_3), (cb HB hw263_4), (cb HB hw263_5), HS6_, HS7_, HS8_, HS9_, HS10_⟩ (fun hHeld => ?_)
             clear hK K
             refine norm_ (a' := ?_) ?_ ?_
             rotate_left
             ·show Act.put _ (some 30) _ = _
              simp only [Act.put, List.setIfInBounds_toArray, List.set_cons_zero, List.set_cons_succ, i64_w, i32_w]
              rfl
             refine pu 10 (some 8) (fl 11 2047) HT_ ?_
             refine done_ (done_of HT_.out (by kernel_rfl)) ?_
             have p270 : 0 ≤ (x7_2 : Int) := of_decide_eq_true as_
             have q270 : x7_2 < (x3_1.length : Int) := of_decide_eq_true as_
             obtain ⟨ad270, e270, hx270_0, hx270_1, hx270_2, hx270_3, hx270_4⟩ := at_T24 (Kd.R_reads' HO_3.out).2.2 x7_2 p270 q270
             obtain rfl : ad264 = ad270 := (by injection e270)
             replace p270 := eq_true p270; replace q270 := eq_true q270
             try go_wp2_with (first | ((with_reducible refine gate_builtin (b := .append) (xs := #[.tmp 47, .tmp 52]) rfl ?_); at_builtin; refine Kd.R_append k24 (w0 := w) w.heap.size rfl (.tmp 47) (.tmp 52) 79 24 (.agg #[(.string ⟨#[]⟩), (.string ⟨#[]⟩), (.string ⟨#[]⟩), (.string ⟨#[]⟩), (.int .i64 0)]) 72 rfl Try.underlying79 info24 rfl (by decide) (by omega) u5 x5_2 (⟨(rd_T24 x3_1 x7_2).f0, (rd_T24 x3_1 x7_2).f1, (rd_T24 x3_1 x7_2).f2, (rd_T24 x3_1 x7_2).f3, (rd_T24 x3_1 x7_2).f4⟩ : S24) [.string ((rd_T24 x3_1 x7_2).f0), .string ((rd_T24 x3_1 x7_2).f1), .string ((rd_T24 x3_1 x7_2).f2), .string ((rd_T24 x3_1 x7_2).f3), .int .i64 ((rd_T24 x3_1 x7_2).f4)] (fun k_ => some k_ ≠ (.slice (some ad264) x3_1.length co16 : Value).ownBlock) (fun _ => False) rfl rfl ?aP (fun _ hk => hk.elim) ?aF ?aO ?aB ?aS ?aL ?_; (case aP => exact k24_mkM _ _ _ (⟨(rd_T24 x3_1 x7_2).f0, (rd_T24 x3_1 x7_2).f1, (rd_T24 x3_1 x7_2).f2, (rd_T24 x3_1 x7_2).f3, (rd_T24 x3_1 x7_2).f4⟩ : S24)); (case aB => exact bw); (case aF => exact (fun k_ hk => Kd.fresh' (Kd.R_lt (kr HO_3)) k_ hk)); (case aO => exact (kr HO_5)); (case aS => exact (below_size bw)); (case aL => have := LMc15.out; omega); intro v272 w19 ho hb hg hat; rw [← Ny271.out] at ho; have n0_ := Aside0.mk (Kd.R_after (ok := (fun _ => True)) (by (with_reducible repeat (first | apply Kd.R_alloc | apply Kd.R_drewN | apply Kd.R_drew)); exact Kd.R_mono HO_3.out (fun _ hk => ⟨trivial, hk⟩)) hg hat); have n1_ := Aside0.mk (hb); have n2_ := Aside0.mk (ho); clear HO_3; clear HB; clear HO_5; have HO_3 := n0_; have HB := n1_; have HO273 := n2_; clear n0_ n1_ n2_; clear ho hb hg hat))
             go_roundg k2
             case measure => have := HK1.out; have := HK2.out; omega
             case rel => exact ⟨(y271), (true), (wrap64 (x7_2 + 1)), rs_, rs_, H', ⟨by have := HK1.out; have := HK2.out; omega⟩, ⟨by (with_reducible repeat (first | apply Kd.R_alloc | apply Kd.R_drewN | apply Kd.R_drew)); exact Kd.R_mono HO_3.out (fun _ hk => hk.2)⟩, ⟨kr HO273⟩, ⟨bw⟩⟩
            ·rw [if_neg c15] at H
             exact absurd H (by simp)
          ·rw [if_neg c8] at H
           have c8b0 : (t265 == 0) = false := beq_eq_false_iff_ne.mpr c8
           have c8b1 : (t265 != 0) = true := bne_iff_ne.mpr c8
           by_cases c20 : t265 < 0
           ·rw [if_pos c20] at H
            have c20b0 : decide (t265 < 0) = true := decide_eq_true c20
            clear c20
            by_cases c21 : x6_2 = true
            ·subst c21
             have H1 : (if x5_2.length < 1954687338268 then (comptrollerref09_keys.l1 k2 l0 x3_1 x4_1 (x5_2 ++ [(⟨(rd_T24 x3_1 x7_2).f0, (rd_T24 x3_1 x7_2).f1, (rd_T24 x3_1 x7_2).f2, (rd_T24 x3_1 x7_2).f3, (rd_T24 x3_1 x7_2).f4⟩ : S24)]) true (wrap64 (x7_2 + 1))) else (none)) = some r := by rw [if_pos rfl] at H; exact H
             clear H; have H := H1; clear H1
             by_cases c22 : x5_2.length < 1954687338268
             ·rw [if_pos c22] at H; have LMc22 := Aside0.mk c22; clear c22
              obtain ⟨y275, hy275⟩ : ∃ y_ : List (S24), y_ = (x5_2 ++ [(⟨(rd_T24 x3_1 x7_2).f0, (rd_T24 x3_1 x7_2).f1, (rd_T24 x3_1 x7_2).f2, (rd_T24 x3_1 x7_2).f3, (rd_T24 x3_1 x7_2).f4⟩ : S24)]) := ⟨_, rfl⟩
              replace H : (comptrollerref09_keys.l1 k2 l0 x3_1 x4_1 y275 true (wrap64 (x7_2 + 1))) = some r := rh hy275 H
              have Ny275 := Aside0.mk hy275; clear hy275
              have H' := Aside0.mk H
              clear H
              obtain ⟨Ao23, co23, eo23⟩ := Kd.R_slice HO_3.out
              subst eo23
              try go_wp2
              have n0_ := Aside0.mk (Kd.R_drew HO_3.out)
              have n1_ := Aside0.mk (Kd.R_drew HO_5.out)
              have n2_ := Aside0.mk (below_drew1 HB.out)
              clear HO_3 HO_5 HB; have HO_3 := n0_; have HO_5 := n1_; have HB := n2_; clear n0_ n1_ n2_
              have p263 : 0 ≤ (x4_1 : Int) := of_decide_eq_true as_
              have q263 : x4_1 < (l0.length : Int) := of_decide_eq_true as_
              obtain ⟨ad263, e263, hx263_0, hx263_1, hx263_2, hx263_3, hx263_4, hx263_5⟩ := at_T28 HR0.out x4_1 p263 q263
              have hw263_5 := hx263_5; have hw263_4 := hx263_4; have hw263_3 := hx263_3; have hw263_2 := hx263_2; have hw263_1 := hx263_1; have hw263_0 := hx263_0; cases e263; replace hx263_0 := cb HB hx263_0; replace hx263_1 := cb HB hx263_1; replace hx263_2 := cb HB hx263_2; replace hx263_3 := cb HB hx263_3; replace hx263_4 := cb HB hx263_4; replace hx263_5 := cb HB hx263_5; replace p263 := eq_true p263; replace q263 := eq_true q263
              have p264 : 0 ≤ (x7_2 : Int) := of_decide_eq_true as_
              have q264 : x7_2 < (x3_1.length : Int) := of_decide_eq_true as_
              obtain ⟨ad264, e264, hx264_0, hx264_1, hx264_2, hx264_3, hx264_4⟩ := at_T24 (Kd.R_reads' HO_3.out).2.2 x7_2 p264 q264
              cases e264; replace p264 := eq_true p264; replace q264 := eq_true q264
              refine start_ (n := 11) (S := fun w' => w'.cell? (ad263.add ((x4_1).toNat * 6)) = some (.string ((rd_T28 l0 x4_1).f0.f0)) ∧ w'.cell? ⟨(ad263.add ((x4_1).toNat * 6)).block, (ad263.add ((x4_1).toNat * 6)).off + 1, none⟩ = some (.string ((rd_T28 l0 x4_1).f0.f1)) ∧ w'.cell? ⟨(ad263.add ((x4_1).toNat * 6)).block, (ad263.add ((x4_1).toNat * 6)).off + 2, none⟩ = some (.string ((rd_T28 l0 x4_1).f0.f2)) ∧ w'.cell? ⟨(ad263.add ((x4_1).toNat * 6)).block, (ad263.add ((x4_1).toNat * 6)).off + 3, none⟩ = some (.string ((rd_T28 l0 x4_1).f0.f3)) ∧ w'.cell? ⟨(ad263.add ((x4_1).toNat * 6)).block, (ad263.add ((x4_1).toNat * 6)).off + 4, none⟩ = some (.int .i64 ((rd_T28 l0 x4_1).f0.f4)) ∧ w'.cell? ⟨(ad263.add ((x4_1).toNat * 6)).block, (ad263.add ((x4_1).toNat * 6)).off + 5, none⟩ = some (.int .i64 ((rd_T28 l0 x4_1).f1)) ∧ w'.cell? (ad264.add ((x7_2).toNat * 5)) = some (.string ((rd_T24 x3_1 x7_2).f0)) ∧ w'.cell? ⟨(ad264.add ((x7_2).toNat * 5)).block, (ad264.add ((x7_2).toNat * 5)).off + 1, none⟩ = some (.string ((rd_T24 x3_1 x7_2).f1)) ∧ w'.cell? ⟨(ad264.add ((x7_2).toNat * 5)).block, (ad264.add ((x7_2).toNat * 5)).off + 2, none⟩ = some (.string ((rd_T24 x3_1 x7_2).f2)) ∧ w'.cell? ⟨(ad264.add ((x7_2).toNat * 5)).block, (ad264.add ((x7_2).toNat * 5)).off + 3, none⟩ = some (.string ((rd_T24 x3_1 x7_2).f3)) ∧ w'.cell? ⟨(ad264.add ((x7_2).toNat * 5)).block, (ad264.add ((x7_2).toNat * 5)).off + 4, none⟩ = some (.int .i64 ((rd_T24 x3_1 x7_2).f4))) (ds := []) (fl 11 0) (by kernel_rfl) rfl rfl ⟨(cb HB hw263_0), (cb HB hw263_1), (cb HB hw263_2), (cb HB hw263_3), (cb HB hw263_4), (cb HB hw263_5), hx264_0, hx264_1, hx264_2, hx264_3, hx264_4⟩ (fun hHeld => ?_); refine with_tabW comptrollerref09_keys.tab10 comptrollerref09_keys.bits10 (fun HT_ HW_ => ?_)
              generalize wr.drew = w24 at HO_3 HO_5 HB hx263_0 hx263_1 hx263_2 hx263_3 hx263_4 hx263_5 hx264_0 hx264_1 hx264_2 hx264_3 hx264_4 hHeld ⊢
              refine pu 0 (some 21) (fl 11 1) HT_ ?_
              refine pu 1 (some 22) (fl 11 3) HT_ ?_
              refine pu 2 (some 23) (fl 11 7) HT_ ?_
              refine pu 3 (some 24) (fl 11 15) HT_ ?_
              refine pu 5 (some 26) (fl 11 47) HT_ ?_
              refine pu 6 (some 27) (fl 11 111) HT_ ?_
              refine pu 7 (some 28) (fl 11 239) HT_ ?_
              refine tu 4 (some 25) (fl 11 255) HT_ HW_ hHeld ?_
              refine tu 8 (some 29) (fl 11 511) HT_ HW_ hHeld ?_
              refine one_ (i := 9) (N := some 30) (fl 11 1023) rfl rfl (one_of HT_.out (by kernel_rfl)) (by decide) (fun K hK => ?_)
              refine goes_ Try.func24 (by kernel_rfl) rfl #[.agg #[.string ((rd_T28 l0 x4_1).f0.f0), .string ((rd_T28 l0 x4_1).f0.f1), .string ((rd_T28 l0 x4_1).f0.f2), .string ((rd_T28 l0 x4_1).f0.f3), .int .i64 ((rd_T28 l0 x4_1).f0.f4)], .agg #[.string ((rd_T24 x3_1 x7_2).f0), .string ((rd_T24 x3_1 x7_2).f1), .string ((rd_T24 x3_1 x7_2).f2), .string ((rd_T24 x3_1 x7_2).f3), .int .i64 ((rd_T24 x3_1 x7_2).f4)]] (by rfl) rfl rfl mp_ ?_
              with_reducible refine (comptrollerref09_Cmp.calls k2 ((rd_T28 l0 x4_1).f0.f0) ((rd_T28 l0 x4_1).f0.f1) ((rd_T28 l0 x4_1).f0.f2) ((rd_T28 l0 x4_1).f0.f3) ((rd_T28 l0 x4_1).f0.f4) ((rd_T24 x3_1 x7_2).f0) ((rd_T24 x3_1 x7_2).f1) ((rd_T24 x3_1 x7_2).f2) ((rd_T24 x3_1 x7_2).f3) ((rd_T24 x3_1 x7_2).f4) t265 _ A7.out).mono ?_
              rintro e w25 ⟨rfl, hb⟩
              have HS6_ := cb2 hb hHeld.2.2.2.2.2.2.1
              have HS7_ := cb2 hb hHeld.2.2.2.2.2.2.2.1
              have HS8_ := cb2 hb hHeld.2.2.2.2.2.2.2.2.1
              have HS9_ := cb2 hb hHeld.2.2.2.2.2.2.2.2.2.1
              have HS10_ := cb2 hb hHeld.2.2.2.2.2.2.2.2.2.2
              refine ⟨_, rfl, ?_⟩
              have n0_ := Aside0.mk (Kd.R_below (kr HO_3) hb)
              have n1_ := Aside0.mk (Kd.R_below (kr HO_5) hb)
              have n2_ := Aside0.mk (below_step bw hb)
              clear HO_3 HO_5 HB; have HO_3 := n0_; have HO_5 := n1_; have HB := n2_; clear n0_ n1_ n2_
              (try clear hb)
              (try clear hb2)
              (try clear hk)
              (try clear hi)
              refine hK.out _ _ ⟨(cb HB hw263_0), (cb HB hw263_1), (cb HB hw263_2), (cb HB hw263_3), (cb HB hw263_4), (cb HB hw263_5), HS6_, HS7_, HS8_, HS9_, HS10_⟩ (fun hHeld => ?_)
              clear hK K
              refine norm_ (a' := ?_) ?_ ?_
              rotate_left
              ·show Act.put _ (some 30) _ = _
               simp only [Act.put, List.setIfInBounds_toArray, List.set_cons_zero, List.set_cons_succ, i64_w, i32_w]
               rfl
              refine pu 10 (some 8) (fl 11 2047) HT_ ?_
              refine done_ (done_of HT_.out (by kernel_rfl)) ?_
              have p274 : 0 ≤ (x7_2 : Int) := of_decide_eq_true as_
              have q274 : x7_2 < (x3_1.length : Int) := of_decide_eq_true as_
              obtain ⟨ad274, e274, hx274_0, hx274_1, hx274_2, hx274_3, hx274_4⟩ := at_T24 (Kd.R_reads' HO_3.out).2.2 x7_2 p274 q274
              obtain rfl : ad264 = ad274 := (by injection e274)
              replace p274 := eq_true p274; replace q274 := eq_true q274
              try go_wp2_with (first | ((with_reducible refine gate_builtin (b := .append) (xs := #[.tmp 47, .tmp 52]) rfl ?_); at_builtin; refine Kd.R_append k24 (w0 := w) w.heap.size rfl (.tmp 47) (.tmp 52) 79 24 (.agg #[(.string ⟨#[]⟩), (.string ⟨#[]⟩), (.string ⟨#[]⟩), (.string ⟨#[]⟩), (.int .i64 0)]) 72 rfl Try.underlying79 info24 rfl (by decide) (by omega) u5 x5_2 (⟨(rd_T24 x3_1 x7_2).f0, (rd_T24 x3_1 x7_2).f1, (rd_T24 x3_1 x7_2).f2, (rd_T24 x3_1 x7_2).f3, (rd_T24 x3_1 x7_2).f4⟩ : S24) [.string ((rd_T24 x3_1 x7_2).f0), .string ((rd_T24 x3_1 x7_2).f1), .string ((rd_T24 x3_1 x7_2).f2), .string ((rd_T24 x3_1 x7_2).f3), .int .i64 ((rd_T24 x3_1 x7_2).f4)] (fun k_ => some k_ ≠ (.slice (some ad264) x3_1.length co23 : Value).ownBlock) (fun _ => False) rfl rfl ?aP (fun _ hk => hk.elim) ?aF ?aO ?aB ?aS ?aL ?_; (case aP => exact k24_mkM _ _ _ (⟨(rd_T24 x3_1 x7_2).f0, (rd_T24 x3_1 x7_2).f1, (rd_T24 x3_1 x7_2).f2, (rd_T24 x3_1 x7_2).f3, (rd_T24 x3_1 x7_2).f4⟩ : S24)); (case aB => exact bw); (case aF => exact (fun k_ hk => Kd.fresh' (Kd.R_lt (kr HO_3)) k_ hk)); (case aO => exact (kr HO_5)); (case aS => exact (below_size bw)); (case aL => have := LMc22.out; omega); intro v276 w26 ho hb hg hat; rw [← Ny275.out] at ho; have n0_ := Aside0.mk (Kd.R_after (ok := (fun _ => True)) (by (with_reducible repeat (first | apply Kd.R_alloc | apply Kd.R_drewN | apply Kd.R_drew)); exact Kd.R_mono HO_3.out (fun _ hk => ⟨trivial, hk⟩)) hg hat); have n1_ := Aside0.mk (hb); have n2_ := Aside0.mk (ho); clear HO_3; clear HB; clear HO_5; have HO_3 := n0_; have HB := n1_; have HO277 := n2_; clear n0_ n1_ n2_; clear ho hb hg hat))
              go_roundg k2
              case measure => have := HK1.out; have := HK2.out; omega
              case rel => exact ⟨(y275), (true), (wrap64 (x7_2 + 1)), rs_, rs_, H', ⟨by have := HK1.out; have := HK2.out; omega⟩, ⟨by (with_reducible repeat (first | apply Kd.R_alloc | apply Kd.R_drewN | apply Kd.R_drew)); exact Kd.R_mono HO_3.out (fun _ hk => hk.2)⟩, ⟨kr HO277⟩, ⟨bw⟩⟩
             ·rw [if_neg c22] at H
              exact absurd H (by simp)
            ·replace c21 := Bool.eq_false_iff.mpr c21
             subst c21
             have H1 : (if x5_2.length < 1954687338268 then ((some (x5_2 ++ [(⟨(rd_T28 l0 x4_1).f0.f0, (rd_T28 l0 x4_1).f0.f1, (rd_T28 l0 x4_1).f0.f2, (rd_T28 l0 x4_1).f0.f3, (rd_T28 l0 x4_1).f0.f4⟩ : S24)] : List (S24))).bind fun y279 => (if y279.length < 1954687338268 then (comptrollerref09_keys.l1 k2 l0 x3_1 x4_1 (y279 ++ [(⟨(rd_T24 x3_1 x7_2).f0, (rd_T24 x3_1 x7_2).f1, (rd_T24 x3_1 x7_2).f2, (rd_T24 x3_1 x7_2).f3, (rd_T24 x3_1 x7_2).f4⟩ : S24)]) true (wrap64 (x7_2 + 1))) else (none))) else (none)) = some r := by rw [if_neg (show ¬ (false = true) by decide)] at H; exact H
             clear H; have H := H1; clear H1
             by_cases c27 : x5_2.length < 1954687338268
             ·rw [if_pos c27] at H; have LMc27 := Aside0.mk c27; clear c27
              obtain ⟨y279, hy279⟩ : ∃ y_ : List (S24), y_ = (x5_2 ++ [(⟨(rd_T28 l0 x4_1).f0.f0, (rd_T28 l0 x4_1).f0.f1, (rd_T28 l0 x4_1).f0.f2, (rd_T28 l0 x4_1).f0.f3, (rd_T28 l0 x4_1).f0.f4⟩ : S24)]) := ⟨_, rfl⟩
              replace H : (if y279.length < 1954687338268 then (comptrollerref09_keys.l1 k2 l0 x3_1 x4_1 (y279 ++ [(⟨(rd_T24 x3_1 x7_2).f0, (rd_T24 x3_1 x7_2).f1, (rd_T24 x3_1 x7_2).f2, (rd_T24 x3_1 x7_2).f3, (rd_T24 x3_1 x7_2).f4⟩ : S24)]) true (wrap64 (x7_2 + 1))) else (none)) = some r := rh hy279 H
              have Ny279 := Aside0.mk hy279; clear hy279
              by_cases c28 : y279.length < 1954687338268
              ·rw [if_pos c28] at H; have LMc28 := Aside0.mk c28; clear c28
               obtain ⟨y283, hy283⟩ : ∃ y_ : List (S24), y_ = (y279 ++ [(⟨(rd_T24 x3_1 x7_2).f0, (rd_T24 x3_1 x7_2).f1, (rd_T24 x3_1 x7_2).f2, (rd_T24 x3_1 x7_2).f3, (rd_T24 x3_1 x7_2).f4⟩ : S24)]) := ⟨_, rfl⟩
               replace H : (comptrollerref09_keys.l1 k2 l0 x3_1 x4_1 y283 true (wrap64 (x7_2 + 1))) = some r := rh hy283 H
               have Ny283 := Aside0.mk hy283; clear hy283
               have H' := Aside0.mk H
               clear H
               obtain ⟨Ao29, co29, eo29⟩ := Kd.R_slice HO_3.out
               subst eo29
               try go_wp2
               have n0_ := Aside0.mk (Kd.R_drew HO_3.out)
               have n1_ := Aside0.mk (Kd.R_drew HO_5.out)
               have n2_ := Aside0.mk (below_drew1 HB.out)
               clear HO_3 HO_5 HB; have HO_3 := n0_; have HO_5 := n1_; have HB := n2_; clear n0_ n1_ n2_
               have p263 : 0 ≤ (x4_1 : Int) := of_decide_eq_true as_
               have q263 : x4_1 < (l0.length : Int) := of_decide_eq_true as_
               obtain ⟨ad263, e263, hx263_0, hx263_1, hx263_2, hx263_3, hx263_4, hx263_5⟩ := at_T28 HR0.out x4_1 p263 q263
               have hw263_5 := hx263_5; have hw263_4 := hx263_4; have hw263_3 := hx263_3; have hw263_2 := hx263_2; have hw263_1 := hx263_1; have hw263_0 := hx263_0; cases e263; replace hx263_0 := cb HB hx263_0; replace hx263_1 := cb HB hx263_1; replace hx263_2 := cb HB hx263_2; replace hx263_3 := cb HB hx263_3; replace hx263_4 := cb HB hx263_4; replace hx263_5 := cb HB hx263_5; replace p263 := eq_true p263; replace q263 := eq_true q263
               have p264 : 0 ≤ (x7_2 : Int) := of_decide_eq_true as_
               have q264 : x7_2 < (x3_1.length : Int) := of_decide_eq_true as_
               obtain ⟨ad264, e264, hx264_0, hx264_1, hx264_2, hx264_3, hx264_4⟩ := at_T24 (Kd.R_reads' HO_3.out).2.2 x7_2 p264 q264
               cases e264; replace p264 := eq_true p264; replace q264 := eq_true q264
               refine start_ (n := 11) (S := fun w' => w'.cell? (ad263.add ((x4_1).toNat * 6)) = some (.string ((rd_T28 l0 x4_1).f0.f0)) ∧ w'.cell? ⟨(ad263.add ((x4_1).toNat * 6)).block, (ad263.add ((x4_1).toNat * 6)).off + 1, none⟩ = some (.string ((rd_T28 l0 x4_1).f0.f1)) ∧ w'.cell? ⟨(ad263.add ((x4_1).toNat * 6)).block, (ad263.add ((x4_1).toNat * 6)).off + 2, none⟩ = some (.string ((rd_T28 l0 x4_1).f0.f2)) ∧ w'.cell? ⟨(ad263.add ((x4_1).toNat * 6)).block, (ad263.add ((x4_1).toNat * 6)).off + 3, none⟩ = some (.string ((rd_T28 l0 x4_1).f0.f3)) ∧ w'.cell? ⟨(ad263.add ((x4_1).toNat * 6)).block, (ad263.add ((x4_1).toNat * 6)).off + 4, none⟩ = some (.int .i64 ((rd_T28 l0 x4_1).f0.f4)) ∧ w'.cell? ⟨(ad263.add ((x4_1).toNat * 6)).block, (ad263.add ((x4_1).toNat * 6)).off + 5, none⟩ = some (.int .i64 ((rd_T28 l0 x4_1).f1)) ∧ w'.cell? (ad264.add ((x7_2).toNat * 5)) = some (.string ((rd_T24 x3_1 x7_2).f0)) ∧ w'.cell? ⟨(ad264.add ((x7_2).toNat * 5)).block, (ad264.add ((x7_2).toNat * 5)).off + 1, none⟩ = some (.string ((rd_T24 x3_1 x7_2).f1)) ∧ w'.cell? ⟨(ad264.add ((x7_2).toNat * 5)).block, (ad264.add ((x7_2).toNat * 5)).off + 2, none⟩ = some (.string ((rd_T24 x3_1 x7_2).f2)) ∧ w'.cell? ⟨(ad264.add ((x7_2).toNat * 5)).block, (ad264.add ((x7_2).toNat * 5)).off + 3, none⟩ = some (.string ((rd_T24 x3_1 x7_2).f3)) ∧ w'.cell? ⟨(ad264.add ((x7_2).toNat * 5)).block, (ad264.add ((x7_2).toNat * 5)).off + 4, none⟩ = some (.int .i64 ((rd_T24 x3_1 x7_2).f4))) (ds := []) (fl 11 0) (by kernel_rfl) rfl rfl ⟨(cb HB hw263_0), (cb HB hw263_1), (cb HB hw263_2), (cb HB hw263_3), (cb HB hw263_4), (cb HB hw263_5), hx264_0, hx264_1, hx264_2, hx264_3, hx264_4⟩ (fun hHeld => ?_); refine with_tabW comptrollerref09_keys.tab10 comptrollerref09_keys.bits10 (fun HT_ HW_ => ?_)
               generalize wr.drew = w30 at HO_3 HO_5 HB hx263_0 hx263_1 hx263_2 hx263_3 hx263_4 hx263_5 hx264_0 hx264_1 hx264_2 hx264_3 hx264_4 hHeld ⊢
               refine pu 0 (some 21) (fl 11 1) HT_ ?_
               refine pu 1 (some 22) (fl 11 3) HT_ ?_
               refine pu 2 (some 23) (fl 11 7) HT_ ?_
               refine pu 3 (some 24) (fl 11 15) HT_ ?_
               refine pu 5 (some 26) (fl 11 47) HT_ ?_
               refine pu 6 (some 27) (fl 11 111) HT_ ?_
               refine pu 7 (some 28) (fl 11 239) HT_ ?_
               refine tu 4 (some 25) (fl 11 255) HT_ HW_ hHeld ?_
               refine tu 8 (some 29) (fl 11 511) HT_ HW_ hHeld ?_
               refine one_ (i := 9) (N := some 30) (fl 11 1023) rfl rfl (one_of HT_.out (by kernel_rfl)) (by decide) (fun K hK => ?_)
               refine goes_ Try.func24 (by kernel_rfl) rfl #[.agg #[.string ((rd_T28 l0 x4_1).f0.f0), .string ((rd_T28 l0 x4_1).f0.f1), .string ((rd_T28 l0 x4_1).f0.f2), .string ((rd_T28 l0 x4_1).f0.f3), .int .i64 ((rd_T28 l0 x4_1).f0.f4)], .agg #[.string ((rd_T24 x3_1 x7_2).f0), .string ((rd_T24 x3_1 x7_2).f1), .string ((rd_T24 x3_1 x7_2).f2), .string ((rd_T24 x3_1 x7_2).f3), .int .i64 ((rd_T24 x3_1 x7_2).f4)]] (by rfl) rfl rfl mp_ ?_
               with_reducible refine (comptrollerref09_Cmp.calls k2 ((rd_T28 l0 x4_1).f0.f0) ((rd_T28 l0 x4_1).f0.f1) ((rd_T28 l0 x4_1).f0.f2) ((rd_T28 l0 x4_1).f0.f3) ((rd_T28 l0 x4_1).f0.f4) ((rd_T24 x3_1 x7_2).f0) ((rd_T24 x3_1 x7_2).f1) ((rd_T24 x3_1 x7_2).f2) ((rd_T24 x3_1 x7_2).f3) ((rd_T24 x3_1 x7_2).f4) t265 _ A7.out).mono ?_
               rintro e w31 ⟨rfl, hb⟩
               have HS6_ := cb2 hb hHeld.2.2.2.2.2.2.1
               have HS7_ := cb2 hb hHeld.2.2.2.2.2.2.2.1
               have HS8_ := cb2 hb hHeld.2.2.2.2.2.2.2.2.1
               have HS9_ := cb2 hb hHeld.2.2.2.2.2.2.2.2.2.1
               have HS10_ := cb2 hb hHeld.2.2.2.2.2.2.2.2.2.2
               refine ⟨_, rfl, ?_⟩
               have n0_ := Aside0.mk (Kd.R_below (kr HO_3) hb)
               have n1_ := Aside0.mk (Kd.R_below (kr HO_5) hb)
               have n2_ := Aside0.mk (below_step bw hb)
               clear HO_3 HO_5 HB; have HO_3 := n0_; have HO_5 := n1_; have HB := n2_; clear n0_ n1_ n2_
               (try clear hb)
               (try clear hb2)
               (try clear hk)
               (try clear hi)
               refine hK.out _ _ ⟨(cb HB hw263_0), (cb HB hw263_1), (cb HB hw263_2), (cb HB hw263_3), (cb HB hw263_4), (cb HB hw263_5), HS6_, HS7_, HS8_, HS9_, HS10_⟩ (fun hHeld => ?_)
               clear hK K
               refine norm_ (a' := ?_) ?_ ?_
               rotate_left
               ·show Act.put _ (some 30) _ = _
                simp only [Act.put, List.setIfInBounds_toArray, List.set_cons_zero, List.set_cons_succ, i64_w, i32_w]
                rfl
               refine pu 10 (some 8) (fl 11 2047) HT_ ?_
               refine done_ (done_of HT_.out (by kernel_rfl)) ?_
               have p278 : 0 ≤ (x4_1 : Int) := of_decide_eq_true as_
               have q278 : x4_1 < (l0.length : Int) := of_decide_eq_true as_
               obtain ⟨ad278, e278, hx278_0, hx278_1, hx278_2, hx278_3, hx278_4, hx278_5⟩ := at_T28 HR0.out x4_1 p278 q278
               obtain rfl : ad263 = ad278 := (by injection e278)
               replace hx278_0 := cb HB hx278_0; replace hx278_1 := cb HB hx278_1; replace hx278_2 := cb HB hx278_2; replace hx278_3 := cb HB hx278_3; replace hx278_4 := cb HB hx278_4; replace hx278_5 := cb HB hx278_5; replace p278 := eq_true p278; replace q278 := eq_true q278
               try go_wp2_with (first | ((with_reducible refine gate_builtin (b := .append) (xs := #[.tmp 39, .tmp 45]) rfl ?_); at_builtin; refine Kd.R_append k24 (w0 := w) w.heap.size rfl (.tmp 39) (.tmp 45) 79 24 (.agg #[(.string ⟨#[]⟩), (.string ⟨#[]⟩), (.string ⟨#[]⟩), (.string ⟨#[]⟩), (.int .i64 0)]) 72 rfl Try.underlying79 info24 rfl (by decide) (by omega) u5 x5_2 (⟨(rd_T28 l0 x4_1).f0.f0, (rd_T28 l0 x4_1).f0.f1, (rd_T28 l0 x4_1).f0.f2, (rd_T28 l0 x4_1).f0.f3, (rd_T28 l0 x4_1).f0.f4⟩ : S24) [.string ((rd_T28 l0 x4_1).f0.f0), .string ((rd_T28 l0 x4_1).f0.f1), .string ((rd_T28 l0 x4_1).f0.f2), .string ((rd_T28 l0 x4_1).f0.f3), .int .i64 ((rd_T28 l0 x4_1).f0.f4)] (fun k_ => some k_ ≠ (.slice (some ad264) x3_1.length co29 : Value).ownBlock) (fun _ => False) rfl rfl ?aP (fun _ hk => hk.elim) ?aF ?aO ?aB ?aS ?aL ?_; (case aP => exact k24_mkM _ _ _ (⟨(rd_T28 l0 x4_1).f0.f0, (rd_T28 l0 x4_1).f0.f1, (rd_T28 l0 x4_1).f0.f2, (rd_T28 l0 x4_1).f0.f3, (rd_T28 l0 x4_1).f0.f4⟩ : S24)); (case aB => exact bw); (case aF => exact (fun k_ hk => Kd.fresh' (Kd.R_lt (kr HO_3)) k_ hk)); (case aO => exact (kr HO_5)); (case aS => exact (below_size bw)); (case aL => have := LMc27.out; omega); intro v280 w32 ho hb hg hat; rw [← Ny279.out] at ho; have n0_ := Aside0.mk (Kd.R_after (ok := (fun _ => True)) (by (with_reducible repeat (first | apply Kd.R_alloc | apply Kd.R_drewN | apply Kd.R_drew)); exact Kd.R_mono HO_3.out (fun _ hk => ⟨trivial, hk⟩)) hg hat); have n1_ := Aside0.mk (hb); have n2_ := Aside0.mk (ho); clear HO_3; clear HB; clear HO_5; have HO_3 := n0_; have HB := n1_; have HO281 := n2_; clear n0_ n1_ n2_; clear ho hb hg hat; have p282 : 0 ≤ (x7_2 : Int) := of_decide_eq_true as_; have q282 : x7_2 < (x3_1.length : Int) := of_decide_eq_true as_; obtain ⟨ad282, e282, hx282_0, hx282_1, hx282_2, hx282_3, hx282_4⟩ := at_T24 (Kd.R_reads' HO_3.out).2.2 x7_2 p282 q282; obtain rfl : ad264 = ad282 := (by injection e282); replace p282 := eq_true p282; replace q282 := eq_true q282) | ((with_reducible refine gate_builtin (b := .append) (xs := #[.tmp 47, .tmp 52]) rfl ?_); at_builtin; refine Kd.R_append k24 (w0 := w) w.heap.size rfl (.tmp 47) (.tmp 52) 79 24 (.agg #[(.string ⟨#[]⟩), (.string ⟨#[]⟩), (.string ⟨#[]⟩), (.string ⟨#[]⟩), (.int .i64 0)]) 72 rfl Try.underlying79 info24 rfl (by decide) (by omega) v280 y279 (⟨(rd_T24 x3_1 x7_2).f0, (rd_T24 x3_1 x7_2).f1, (rd_T24 x3_1 x7_2).f2, (rd_T24 x3_1 x7_2).f3, (rd_T24 x3_1 x7_2).f4⟩ : S24) [.string ((rd_T24 x3_1 x7_2).f0), .string ((rd_T24 x3_1 x7_2).f1), .string ((rd_T24 x3_1 x7_2).f2), .string ((rd_T24 x3_1 x7_2).f3), .int .i64 ((rd_T24 x3_1 x7_2).f4)] (fun k_ => some k_ ≠ (.slice (some ad264) x3_1.length co29 : Value).ownBlock) (fun _ => False) rfl rfl ?aP (fun _ hk => hk.elim) ?aF ?aO ?aB ?aS ?aL ?_; (case aP => exact k24_mkM _ _ _ (⟨(rd_T24 x3_1 x7_2).f0, (rd_T24 x3_1 x7_2).f1, (rd_T24 x3_1 x7_2).f2, (rd_T24 x3_1 x7_2).f3, (rd_T24 x3_1 x7_2).f4⟩ : S24)); (case aB => exact bw); (case aF => exact (fun k_ hk => Kd.fresh' (Kd.R_lt (kr HO_3)) k_ hk)); (case aO => exact (kr HO281)); (case aS => exact (below_size bw)); (case aL => have := LMc28.out; omega); intro v284 w33 ho hb hg hat; rw [← Ny283.out] at ho; have n0_ := Aside0.mk (Kd.R_after (ok := (fun _ => True)) (kr HO_3) hg hat); have n1_ := Aside0.mk (hb); have n2_ := Aside0.mk (ho); clear HO_3; clear HB; clear HO281; have HO_3 := n0_; have HB := n1_; have HO285 := n2_; clear n0_ n1_ n2_; clear ho hb hg hat))
               go_roundg k2
               case measure => have := HK1.out; have := HK2.out; omega
               case rel => exact ⟨(y283), (true), (wrap64 (x7_2 + 1)), rs_, rs_, H', ⟨by have := HK1.out; have := HK2.out; omega⟩, ⟨by (with_reducible repeat (first | apply Kd.R_alloc | apply Kd.R_drewN | apply Kd.R_drew)); exact Kd.R_mono HO_3.out (fun _ hk => hk.2)⟩, ⟨kr HO285⟩, ⟨bw⟩⟩
              ·rw [if_neg c28] at H
               exact absurd H (by simp)
             ·rw [if_neg c27] at H
              exact absurd H (by simp)
           ·rw [if_neg c20] at H
            have c20b0 : decide (t265 < 0) = false := decide_eq_false c20
            clear c20
            by_cases c34 : x5_2.length < 1954687338268
            ·rw [if_pos c34] at H; have LMc34 := Aside0.mk c34; clear c34
             obtain ⟨y287, hy287⟩ : ∃ y_ : List (S24), y_ = (x5_2 ++ [(⟨(rd_T24 x3_1 x7_2).f0, (rd_T24 x3_1 x7_2).f1, (rd_T24 x3_1 x7_2).f2, (rd_T24 x3_1 x7_2).f3, (rd_T24 x3_1 x7_2).f4⟩ : S24)]) := ⟨_, rfl⟩
             replace H : (comptrollerref09_keys.l1 k2 l0 x3_1 x4_1 y287 x6_2 (wrap64 (x7_2 + 1))) = some r := rh hy287 H
             have Ny287 := Aside0.mk hy287; clear hy287
             have H' := Aside0.mk H
             clear H
             obtain ⟨Ao35, co35, eo35⟩ := Kd.R_slice HO_3.out
             subst eo35
             try go_wp2
             have n0_ := Aside0.mk (Kd.R_drew HO_3.out)
             have n1_ := Aside0.mk (Kd.R_drew HO_5.out)
             have n2_ := Aside0.mk (below_drew1 HB.out)
             clear HO_3 HO_5 HB; have HO_3 := n0_; have HO_5 := n1_; have HB := n2_; clear n0_ n1_ n2_
             have p263 : 0 ≤ (x4_1 : Int) := of_decide_eq_true as_
             have q263 : x4_1 < (l0.length : Int) := of_decide_eq_true as_
             obtain ⟨ad263, e263, hx263_0, hx263_1, hx263_2, hx263_3, hx263_4, hx263_5⟩ := at_T28 HR0.out x4_1 p263 q263
             have hw263_5 := hx263_5; have hw263_4 := hx263_4; have hw263_3 := hx263_3; have hw263_2 := hx263_2; have hw263_1 := hx263_1; have hw263_0 := hx263_0; cases e263; replace hx263_0 := cb HB hx263_0; replace hx263_1 := cb HB hx263_1; replace hx263_2 := cb HB hx263_2; replace hx263_3 := cb HB hx263_3; replace hx263_4 := cb HB hx263_4; replace hx263_5 := cb HB hx263_5; replace p263 := eq_true p263; replace q263 := eq_true q263
             have p264 : 0 ≤ (x7_2 : Int) := of_decide_eq_true as_
             have q264 : x7_2 < (x3_1.length : Int) := of_decide_eq_true as_
             obtain ⟨ad264, e264, hx264_0, hx264_1, hx264_2, hx264_3, hx264_4⟩ := at_T24 (Kd.R_reads' HO_3.out).2.2 x7_2 p264 q264
             cases e264; replace p264 := eq_true p264; replace q264 := eq_true q264
             refine start_ (n := 11) (S := fun w' => w'.cell? (ad263.add ((x4_1).toNat * 6)) = some (.string ((rd_T28 l0 x4_1).f0.f0)) ∧ w'.cell? ⟨(ad263.add ((x4_1).toNat * 6)).block, (ad263.add ((x4_1).toNat * 6)).off + 1, none⟩ = some (.string ((rd_T28 l0 x4_1).f0.f1)) ∧ w'.cell? ⟨(ad263.add ((x4_1).toNat * 6)).block, (ad263.add ((x4_1).toNat * 6)).off + 2, none⟩ = some (.string ((rd_T28 l0 x4_1).f0.f2)) ∧ w'.cell? ⟨(ad263.add ((x4_1).toNat * 6)).block, (ad263.add ((x4_1).toNat * 6)).off + 3, none⟩ = some (.string ((rd_T28 l0 x4_1).f0.f3)) ∧ w'.cell? ⟨(ad263.add ((x4_1).toNat * 6)).block, (ad263.add ((x4_1).toNat * 6)).off + 4, none⟩ = some (.int .i64 ((rd_T28 l0 x4_1).f0.f4)) ∧ w'.cell? ⟨(ad263.add ((x4_1).toNat * 6)).block, (ad263.add ((x4_1).toNat * 6)).off + 5, none⟩ = some (.int .i64 ((rd_T28 l0 x4_1).f1)) ∧ w'.cell? (ad264.add ((x7_2).toNat * 5)) = some (.string ((rd_T24 x3_1 x7_2).f0)) ∧ w'.cell? ⟨(ad264.add ((x7_2).toNat * 5)).block, (ad264.add ((x7_2).toNat * 5)).off + 1, none⟩ = some (.string ((rd_T24 x3_1 x7_2).f1)) ∧ w'.cell? ⟨(ad264.add ((x7_2).toNat * 5)).block, (ad264.add ((x7_2).toNat * 5)).off + 2, none⟩ = some (.string ((rd_T24 x3_1 x7_2).f2)) ∧ w'.cell? ⟨(ad264.add ((x7_2).toNat * 5)).block, (ad264.add ((x7_2).toNat * 5)).off + 3, none⟩ = some (.string ((rd_T24 x3_1 x7_2).f3)) ∧ w'.cell? ⟨(ad264.add ((x7_2).toNat * 5)).block, (ad264.add ((x7_2).toNat * 5)).off + 4, none⟩ = some (.int .i64 ((rd_T24 x3_1 x7_2).f4))) (ds := []) (fl 11 0) (by kernel_rfl) rfl rfl ⟨(cb HB hw263_0), (cb HB hw263_1), (cb HB hw263_2), (cb HB hw263_3), (cb HB hw263_4), (cb HB hw263_5), hx264_0, hx264_1, hx264_2, hx264_3, hx264_4⟩ (fun hHeld => ?_); refine with_tabW comptrollerref09_keys.tab10 comptrollerref09_keys.bits10 (fun HT_ HW_ => ?_)
             generalize wr.drew = w36 at HO_3 HO_5 HB hx263_0 hx263_1 hx263_2 hx263_3 hx263_4 hx263_5 hx264_0 hx264_1 hx264_2 hx264_3 hx264_4 hHeld ⊢
             refine pu 0 (some 21) (fl 11 1) HT_ ?_
             refine pu 1 (some 22) (fl 11 3) HT_ ?_
             refine pu 2 (some 23) (fl 11 7) HT_ ?_
             refine pu 3 (some 24) (fl 11 15) HT_ ?_
             refine pu 5 (some 26) (fl 11 47) HT_ ?_
             refine pu 6 (some 27) (fl 11 111) HT_ ?_
             refine pu 7 (some 28) (fl 11 239) HT_ ?_
             refine tu 4 (some 25) (fl 11 255) HT_ HW_ hHeld ?_
             refine tu 8 (some 29) (fl 11 511) HT_ HW_ hHeld ?_
             refine one_ (i := 9) (N := some 30) (fl 11 1023) rfl rfl (one_of HT_.out (by kernel_rfl)) (by decide) (fun K hK => ?_)
             refine goes_ Try.func24 (by kernel_rfl) rfl #[.agg #[.string ((rd_T28 l0 x4_1).f0.f0), .string ((rd_T28 l0 x4_1).f0.f1), .string ((rd_T28 l0 x4_1).f0.f2), .string ((rd_T28 l0 x4_1).f0.f3), .int .i64 ((rd_T28 l0 x4_1).f0.f4)], .agg #[.string ((rd_T24 x3_1 x7_2).f0), .string ((rd_T24 x3_1 x7_2).f1), .string ((rd_T24 x3_1 x7_2).f2), .string ((rd_T24 x3_1 x7_2).f3), .int .i64 ((rd_T24 x3_1 x7_2).f4)]] (by rfl) rfl rfl mp_ ?_
             with_reducible refine (comptrollerref09_Cmp.calls k2 ((rd_T28 l0 x4_1).f0.f0) ((rd_T28 l0 x4_1).f0.f1) ((rd_T28 l0 x4_1).f0.f2) ((rd_T28 l0 x4_1).f0.f3) ((rd_T28 l0 x4_1).f0.f4) ((rd_T24 x3_1 x7_2).f0) ((rd_T24 x3_1 x7_2).f1) ((rd_T24 x3_1 x7_2).f2) ((rd_T24 x3_1 x7_2).f3) ((rd_T24 x3_1 x7_2).f4) t265 _ A7.out).mono ?_
             rintro e w37 ⟨rfl, hb⟩
             have HS6_ := cb2 hb hHeld.2.2.2.2.2.2.1
             have HS7_ := cb2 hb hHeld.2.2.2.2.2.2.2.1
             have HS8_ := cb2 hb hHeld.2.2.2.2.2.2.2.2.1
             have HS9_ := cb2 hb hHeld.2.2.2.2.2.2.2.2.2.1
             have HS10_ := cb2 hb hHeld.2.2.2.2.2.2.2.2.2.2
             refine ⟨_, rfl, ?_⟩
             have n0_ := Aside0.mk (Kd.R_below (kr HO_3) hb)
             have n1_ := Aside0.mk (Kd.R_below (kr HO_5) hb)
             have n2_ := Aside0.mk (below_step bw hb)
             clear HO_3 HO_5 HB; have HO_3 := n0_; have HO_5 := n1_; have HB := n2_; clear n0_ n1_ n2_
             (try clear hb)
             (try clear hb2)
             (try clear hk)
             (try clear hi)
             refine hK.out _ _ ⟨(cb HB hw263_0), (cb HB hw263_1), (cb HB hw263_2), (cb HB hw263_3), (cb HB hw263_4), (cb HB hw263_5), HS6_, HS7_, HS8_, HS9_, HS10_⟩ (fun hHeld => ?_)
             clear hK K
             refine norm_ (a' := ?_) ?_ ?_
             rotate_left
             ·show Act.put _ (some 30) _ = _
              simp only [Act.put, List.setIfInBounds_toArray, List.set_cons_zero, List.set_cons_succ, i64_w, i32_w]
              rfl
             refine pu 10 (some 8) (fl 11 2047) HT_ ?_
             refine done_ (done_of HT_.out (by kernel_rfl)) ?_
             have p286 : 0 ≤ (x7_2 : Int) := of_decide_eq_true as_
             have q286 : x7_2 < (x3_1.length : Int) := of_decide_eq_true as_
             obtain ⟨ad286, e286, hx286_0, hx286_1, hx286_2, hx286_3, hx286_4⟩ := at_T24 (Kd.R_reads' HO_3.out).2.2 x7_2 p286 q286
             obtain rfl : ad264 = ad286 := (by injection e286)
             replace p286 := eq_true p286; replace q286 := eq_true q286
             try go_wp2_with (first | ((with_reducible refine gate_builtin (b := .append) (xs := #[.tmp 47, .tmp 52]) rfl ?_); at_builtin; refine Kd.R_append k24 (w0 := w) w.heap.size rfl (.tmp 47) (.tmp 52) 79 24 (.agg #[(.string ⟨#[]⟩), (.string ⟨#[]⟩), (.string ⟨#[]⟩), (.string ⟨#[]⟩), (.int .i64 0)]) 72 rfl Try.underlying79 info24 rfl (by decide) (by omega) u5 x5_2 (⟨(rd_T24 x3_1 x7_2).f0, (rd_T24 x3_1 x7_2).f1, (rd_T24 x3_1 x7_2).f2, (rd_T24 x3_1 x7_2).f3, (rd_T24 x3_1 x7_2).f4⟩ : S24) [.string ((rd_T24 x3_1 x7_2).f0), .string ((rd_T24 x3_1 x7_2).f1), .string ((rd_T24 x3_1 x7_2).f2), .string ((rd_T24 x3_1 x7_2).f3), .int .i64 ((rd_T24 x3_1 x7_2).f4)] (fun k_ => some k_ ≠ (.slice (some ad264) x3_1.length co35 : Value).ownBlock) (fun _ => False) rfl rfl ?aP (fun _ hk => hk.elim) ?aF ?aO ?aB ?aS ?aL ?_; (case aP => exact k24_mkM _ _ _ (⟨(rd_T24 x3_1 x7_2).f0, (rd_T24 x3_1 x7_2).f1, (rd_T24 x3_1 x7_2).f2, (rd_T24 x3_1 x7_2).f3, (rd_T24 x3_1 x7_2).f4⟩ : S24)); (case aB => exact bw); (case aF => exact (fun k_ hk => Kd.fresh' (Kd.R_lt (kr HO_3)) k_ hk)); (case aO => exact (kr HO_5)); (case aS => exact (below_size bw)); (case aL => have := LMc34.out; omega); intro v288 w38 ho hb hg hat; rw [← Ny287.out] at ho; have n0_ := Aside0.mk (Kd.R_after (ok := (fun _ => True)) (by (with_reducible repeat (first | apply Kd.R_alloc | apply Kd.R_drewN | apply Kd.R_drew)); exact Kd.R_mono HO_3.out (fun _ hk => ⟨trivial, hk⟩)) hg hat); have n1_ := Aside0.mk (hb); have n2_ := Aside0.mk (ho); clear HO_3; clear HB; clear HO_5; have HO_3 := n0_; have HB := n1_; have HO289 := n2_; clear n0_ n1_ n2_; clear ho hb hg hat))
             go_roundg k2
             case measure => have := HK1.out; have := HK2.out; omega
             case rel => exact ⟨(y287), (x6_2), (wrap64 (x7_2 + 1)), rs_, rs_, H', ⟨by have := HK1.out; have := HK2.out; omega⟩, ⟨by (with_reducible repeat (first | apply Kd.R_alloc | apply Kd.R_drewN | apply Kd.R_drew)); exact Kd.R_mono HO_3.out (fun _ hk => hk.2)⟩, ⟨kr HO289⟩, ⟨bw⟩⟩
            ·rw [if_neg c34] at H
             exact absurd H (by simp)
         ·rw [if_neg c6] at H
          exact absurd H (by simp)
        ·rw [if_neg c5] at H
         exact absurd H (by simp)
       ·rw [if_neg c4] at H
        exact absurd H (by simp)
      ·rw [if_neg c3] at H
       have c3b0 : decide (x7_2 < (x3_1.length : Int)) = false := decide_eq_false c3
       clear c3
       by_cases c39 : x6_2 = true
       ·subst c39
        have H1 : (comptrollerref09_keys.l0 k2 l0 x5_2 (wrap64 (x4_1 + 1))) = some r := by rw [if_pos rfl] at H; exact H
        clear H; have H := H1; clear H1
        have H' := Aside0.mk H
        clear H
        obtain ⟨Ao40, co40, eo40⟩ := Kd.R_slice HO_3.out
        subst eo40; go_wp2
        go_roundg k2
        case measure => have := HK1.out; have := HK2.out; omega
        case rel => exact ⟨(x5_2), (wrap64 (x4_1 + 1)), rs_, H', ⟨by have := HK1.out; have := HK2.out; omega⟩, ⟨by (with_reducible repeat (first | apply Kd.R_alloc | apply Kd.R_drewN | apply Kd.R_drew)); exact Kd.R_mono HO_5.out (fun _ hk => trivial)⟩, ⟨bw⟩⟩
       ·replace c39 := Bool.eq_false_iff.mpr c39
        subst c39
        have H1 : (if 0 ≤ x4_1 then (if x4_1 < (l0.length : Int) then (if x5_2.length < 1954687338268 then (comptrollerref09_keys.l0 k2 l0 (x5_2 ++ [(⟨(rd_T28 l0 x4_1).f0.f0, (rd_T28 l0 x4_1).f0.f1, (rd_T28 l0 x4_1).f0.f2, (rd_T28 l0 x4_1).f0.f3, (rd_T28 l0 x4_1).f0.f4⟩ : S24)]) (wrap64 (x4_1 + 1))) else (none)) else (none)) else (none)) = some r := by rw [if_neg (show ¬ (false = true) by decide)] at H; exact H
        clear H; have H := H1; clear H1
        by_cases c41 : 0 ≤ x4_1
        ·rw [if_pos c41] at H
         have c41b0 : decide (0 ≤ x4_1) = true := decide_eq_true c41
         clear c41
         by_cases c42 : x4_1 < (l0.length : Int)
         ·rw [if_pos c42] at H
          have c42b0 : decide (x4_1 < (l0.length : Int)) = true := decide_eq_true c42
          clear c42
          by_cases c43 : x5_2.length < 1954687338268
          ·rw [if_pos c43] at H; have LMc43 := Aside0.mk c43; clear c43
           obtain ⟨y260, hy260⟩ : ∃ y_ : List (S24), y_ = (x5_2 ++ [(⟨(rd_T28 l0 x4_1).f0.f0, (rd_T28 l0 x4_1).f0.f1, (rd_T28 l0 x4_1).f0.f2, (rd_T28 l0 x4_1).f0.f3, (rd_T28 l0 x4_1).f0.f4⟩ : S24)]) := ⟨_, rfl⟩
           replace H : (comptrollerref09_keys.l0 k2 l0 y260 (wrap64 (x4_1 + 1))) = some r := rh hy260 H
           have Ny260 := Aside0.mk hy260; clear hy260
           have H' := Aside0.mk H
           clear H
           obtain ⟨Ao44, co44, eo44⟩ := Kd.R_slice HO_3.out
           subst eo44
           have p259 : 0 ≤ (x4_1 : Int) := of_decide_eq_true as_
           have q259 : x4_1 < (l0.length : Int) := of_decide_eq_true as_
           obtain ⟨ad259, e259, hx259_0, hx259_1, hx259_2, hx259_3, hx259_4, hx259_5⟩ := at_T28 HR0.out x4_1 p259 q259
           cases e259; replace hx259_0 := cb HB hx259_0; replace hx259_1 := cb HB hx259_1; replace hx259_2 := cb HB hx259_2; replace hx259_3 := cb HB hx259_3; replace hx259_4 := cb HB hx259_4; replace hx259_5 := cb HB hx259_5; replace p259 := eq_true p259; replace q259 := eq_true q259
           go_wp2_with (first | ((with_reducible refine gate_builtin (b := .append) (xs := #[.tmp 56, .tmp 62]) rfl ?_); at_builtin; refine Kd.R_append k24 (w0 := w) w.heap.size rfl (.tmp 56) (.tmp 62) 79 24 (.agg #[(.string ⟨#[]⟩), (.string ⟨#[]⟩), (.string ⟨#[]⟩), (.string ⟨#[]⟩), (.int .i64 0)]) 72 rfl Try.underlying79 info24 rfl (by decide) (by omega) u5 x5_2 (⟨(rd_T28 l0 x4_1).f0.f0, (rd_T28 l0 x4_1).f0.f1, (rd_T28 l0 x4_1).f0.f2, (rd_T28 l0 x4_1).f0.f3, (rd_T28 l0 x4_1).f0.f4⟩ : S24) [.string ((rd_T28 l0 x4_1).f0.f0), .string ((rd_T28 l0 x4_1).f0.f1), .string ((rd_T28 l0 x4_1).f0.f2), .string ((rd_T28 l0 x4_1).f0.f3), .int .i64 ((rd_T28 l0 x4_1).f0.f4)] (fun k_ => some k_ ≠ (.slice Ao44 x3_1.length co44 : Value).ownBlock) (fun _ => False) rfl rfl ?aP (fun _ hk => hk.elim) ?aF ?aO ?aB ?aS ?aL ?_; (case aP => exact k24_mkM _ _ _ (⟨(rd_T28 l0 x4_1).f0.f0, (rd_T28 l0 x4_1).f0.f1, (rd_T28 l0 x4_1).f0.f2, (rd_T28 l0 x4_1).f0.f3, (rd_T28 l0 x4_1).f0.f4⟩ : S24)); (case aB => exact bw); (case aF => exact (fun k_ hk => Kd.fresh' (Kd.R_lt (kr HO_3)) k_ hk)); (case aO => exact (kr HO_5)); (case aS => exact (below_size bw)); (case aL => have := LMc43.out; omega); intro v261 w45 ho hb hg hat; rw [← Ny260.out] at ho; have n0_ := Aside0.mk (Kd.R_after (ok := (fun _ => True)) (by (with_reducible repeat (first | apply Kd.R_alloc | apply Kd.R_drewN | apply Kd.R_drew)); exact Kd.R_mono HO_3.out (fun _ hk => ⟨trivial, hk⟩)) hg hat); have n1_ := Aside0.mk (hb); have n2_ := Aside0.mk (ho); clear HO_3; clear HB; clear HO_5; have HO_3 := n0_; have HB := n1_; have HO262 := n2_; clear n0_ n1_ n2_; clear ho hb hg hat))
           go_roundg k2
           case measure => have := HK1.out; have := HK2.out; omega
           case rel => exact ⟨(y260), (wrap64 (x4_1 + 1)), rs_, H', ⟨by have := HK1.out; have := HK2.out; omega⟩, ⟨by (with_reducible repeat (first | apply Kd.R_alloc | apply Kd.R_drewN | apply Kd.R_drew)); exact Kd.R_mono HO262.out (fun _ hk => trivial)⟩, ⟨bw⟩⟩
          ·rw [if_neg c43] at H
           exact absurd H (by simp)
         ·rw [if_neg c42] at H
          exact absurd H (by simp)
        ·rw [if_neg c41] at H
         exact absurd H (by simp)
   ·rw [if_neg c2] at H
    have c2b0 : decide (x4_1 < (l0.length : Int)) = false := decide_eq_false c2
    clear c2
    obtain rfl := Option.some.inj H
    go_wp2; go_ret
    exact ⟨_, by first | rfl | (simp [errW_none, errW_some] <;> rfl) | (simp [*, errW_none, errW_some] <;> rfl), kr HO_3, bw⟩

end Go.Proofs.Ytdckeflggcefbaa.Y
