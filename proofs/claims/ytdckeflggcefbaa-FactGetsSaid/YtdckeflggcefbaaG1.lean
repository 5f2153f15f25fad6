/- Plain Lean functions with the answers of the program's functions, and proofs that the machine's calls come to them; lines written by a program for this claim. Short names for steps that come often in the texts of this claim. More short names for steps that come often in the texts of this claim. The library's strings.Compare at this program: it returns what Lib.compareBytes says of the two texts, and leaves the world as it is. The library's slices.Grow at the nil slice of facts: an empty row of the call's own. Its conditions: the room that is asked for is not negative, and its bytes fit the machine. The iterator over the runs of equal keys: what it hands to each round, and what it leaves. Its conditions: the rounds keep what the two invariants say. The library's slices.Clone at facts: a new row of the same facts; nothing that was there is turned. Its condition: the row's bytes fit the machine. One word more for the walks: a call of a function through a function value that holds a plain function. No conditions. -/
import Derived.Below
import Derived.Deep.Draws
import Derived.Deep.AppendLies
import Derived.Maps.AppendAt
import Derived.OwnWalk
import Derived.Laws.BytesArg
import Derived.Laws.MakeOwn
import Derived.Laws.OwnMore
import Derived.Deep.OwnRows
import Derived.Tactics
import Derived.Lib.ConvBytes
import Derived.Laws.Slices
import Derived.WalkKit
import Derived.KernelRfl
import Derived.RowKit3
import Derived.Deep.LoopGhost
import Derived.Deep.QuietTactic
import Derived.BigQuiet
import Derived.WideLaws
import Derived.Deep.DeepCutAuto
import Derived.Deep.CutBlock
import Derived.Deep.RegionHeld3
import Derived.Laws.Rows
import Derived.Lib.AppendStr
import Derived.ArgAppend
import Derived.Laws.IdiomCopy
import Derived.OrdersHeld
import Derived.Laws.BitsLemmas
import Derived.RowKit
import Derived.Shelf.Small.Strs
import Derived.WalkSpells
import Derived.RangeFuncLeaves
import Derived.RangeFuncCalls
import Derived.Shelf.Abstract
import Derived.OwnWalkIn
import Derived.TacticsInMore
import Derived.LoopNIn
import Derived.LoopIn
import Derived.Sort.LoopGhostIn
import Derived.Sort.QuietIn
import Derived.Test.YtdckeflggcefbaaProg
import Derived.Test.YtdckeflggcefbaaGV
namespace Go.Proofs.Ytdckeflggcefbaa.Y
open Go.RowKit Go.Proofs.YtdckeflggcefbaaW.PrintWords Go.Proofs.YtdckeflggcefbaaW.PrintLast Go.Proofs.YtdckeflggcefbaaW.PrintMore
attribute [local go_sem] max2_int min2_int max_two min_two max_three min_three max_four min_four   -- for this text's walks alone
set_option linter.unusedVariables false
set_option linter.unusedSimpArgs false



def errW : Option Int → Value
  | none => .nilIface
  | some c => .iface 0 (.int .i64 c)
theorem errW_none : errW none = .nilIface := rfl
theorem errW_some (c : Int) : errW (some c) = .iface 0 (.int .i64 c) := rfl

theorem info2 : (Try.prog.info? 2).map (fun i => (i.zero, i.size, i.bytes)) = some (some (.int .i64 0), 1, 8) := by kernel_rfl
theorem info3 : (Try.prog.info? 3).map (fun i => (i.zero, i.size, i.bytes)) = some (some (.int .i64 0), 1, 8) := by kernel_rfl
theorem info24 : (Try.prog.info? 24).map (fun i => (i.zero, i.size, i.bytes)) = some (some (.agg #[(.string ⟨#[]⟩), (.string ⟨#[]⟩), (.string ⟨#[]⟩), (.string ⟨#[]⟩), (.int .i64 0)]), 5, 72) := by kernel_rfl
theorem info28 : (Try.prog.info? 28).map (fun i => (i.zero, i.size, i.bytes)) = some (some (.agg #[(.string ⟨#[]⟩), (.string ⟨#[]⟩), (.string ⟨#[]⟩), (.string ⟨#[]⟩), (.int .i64 0), (.int .i64 0)]), 6, 80) := by kernel_rfl
theorem info30 : (Try.prog.info? 30).map (fun i => (i.zero, i.size, i.bytes)) = some (some (.slice none 0 0), 1, 24) := by kernel_rfl
theorem info55 : (Try.prog.info? 55).map (fun i => (i.zero, i.size, i.bytes)) = some (some (.agg #[(.string ⟨#[]⟩), (.string ⟨#[]⟩), (.string ⟨#[]⟩), (.string ⟨#[]⟩), (.int .i64 0), (.int .i64 0)]), 6, 80) := by kernel_rfl
-- the values' own types
/-! #### struct type 44 -/
structure S44 where
  f0 : ByteArray
  f1 : ByteArray
  f2 : ByteArray
  f3 : ByteArray
  f4 : Int
def z44 : S44 := ⟨(⟨#[]⟩ : ByteArray), (⟨#[]⟩ : ByteArray), (⟨#[]⟩ : ByteArray), (⟨#[]⟩ : ByteArray), (0 : Int)⟩
def k44 : Kd S44 := Kd.iso (Kd.pair Kd.string (Kd.pair Kd.string (Kd.pair Kd.string (Kd.pair Kd.string (Kd.int .i64))))) (fun x : S44 => (x.f0, x.f1, x.f2, x.f3, x.f4))
theorem k44_open {w : World} {x : S44} {cs : List Value} (h : k44.K w x cs) : cs = [.string x.f0, .string x.f1, .string x.f2, .string x.f3, .int .i64 x.f4] := by
  obtain ⟨_, _, rfl, rfl, ⟨_, _, rfl, rfl, ⟨_, _, rfl, rfl, ⟨_, _, rfl, rfl, rfl⟩⟩⟩⟩ := h
  exact rfl
theorem k44_openM {w : World} {base : Nat} {ok : Nat → Prop} {x : S44} {cs : List Value} (h : k44.M w base ok x cs) : cs = [.string x.f0, .string x.f1, .string x.f2, .string x.f3, .int .i64 x.f4] := by
  obtain ⟨_, _, rfl, rfl, ⟨_, _, rfl, rfl, ⟨_, _, rfl, rfl, ⟨_, _, rfl, rfl, rfl⟩⟩⟩⟩ := h
  exact rfl
theorem k44_mk (w : World) (x : S44)  : k44.K w x [.string x.f0, .string x.f1, .string x.f2, .string x.f3, .int .i64 x.f4] := ⟨[.string x.f0], [.string x.f1, .string x.f2, .string x.f3, .int .i64 x.f4], rfl, rfl, ⟨[.string x.f1], [.string x.f2, .string x.f3, .int .i64 x.f4], rfl, rfl, ⟨[.string x.f2], [.string x.f3, .int .i64 x.f4], rfl, rfl, ⟨[.string x.f3], [.int .i64 x.f4], rfl, rfl, rfl⟩⟩⟩⟩
theorem k44_mkM (w : World) (base : Nat) (ok : Nat → Prop) (x : S44)  : k44.M w base ok x [.string x.f0, .string x.f1, .string x.f2, .string x.f3, .int .i64 x.f4] := ⟨[.string x.f0], [.string x.f1, .string x.f2, .string x.f3, .int .i64 x.f4], rfl, rfl, ⟨[.string x.f1], [.string x.f2, .string x.f3, .int .i64 x.f4], rfl, rfl, ⟨[.string x.f2], [.string x.f3, .int .i64 x.f4], rfl, rfl, ⟨[.string x.f3], [.int .i64 x.f4], rfl, rfl, rfl⟩⟩⟩⟩
theorem k44_mkF (W : World) (ok : Nat → Prop) (x : S44) : Kd.FK k44 W ok x [.string x.f0, .string x.f1, .string x.f2, .string x.f3, .int .i64 x.f4] := fun W2 _ => k44_mk W2 x
def rd_T44 (xs : List S44) (i : Int) : S44 := xs.getD i.toNat z44
theorem at_T44 {w : World} {A : Option Addr} {n : Nat} {xs : List S44} (h : Kd.C k44 w A n xs) (i : Int) (h0 : 0 ≤ i) (h1 : i < n) : ∃ ad , A = some ad ∧ w.cell? (ad.add (i.toNat * 5)) = some (.string (rd_T44 xs i).f0) ∧ w.cell? ⟨(ad.add (i.toNat * 5)).block, (ad.add (i.toNat * 5)).off + 1, none⟩ = some (.string (rd_T44 xs i).f1) ∧ w.cell? ⟨(ad.add (i.toNat * 5)).block, (ad.add (i.toNat * 5)).off + 2, none⟩ = some (.string (rd_T44 xs i).f2) ∧ w.cell? ⟨(ad.add (i.toNat * 5)).block, (ad.add (i.toNat * 5)).off + 3, none⟩ = some (.string (rd_T44 xs i).f3) ∧ w.cell? ⟨(ad.add (i.toNat * 5)).block, (ad.add (i.toNat * 5)).off + 4, none⟩ = some (.int .i64 (rd_T44 xs i).f4) := by
  obtain ⟨ad, c, e, _, hK, hc0⟩ := Kd.C_get h z44 i h0 h1
  have hc : ∀ j u, c[j]? = some u → w.cell? (ad.add (i.toNat * 5 + j)) = some u := hc0
  obtain rfl := k44_open hK
  exact ⟨ad, e, hc 0 _ rfl, by rw [← add_field _ _ 1 (by omega)]; exact hc 1 _ rfl, by rw [← add_field _ _ 2 (by omega)]; exact hc 2 _ rfl, by rw [← add_field _ _ 3 (by omega)]; exact hc 3 _ rfl, by rw [← add_field _ _ 4 (by omega)]; exact hc 4 _ rfl⟩

/-! #### struct type 55 -/
structure S55 where
  f0 : S44
  f1 : Int
def z55 : S55 := ⟨z44, (0 : Int)⟩
def k55 : Kd S55 := Kd.iso (Kd.pair k44 (Kd.int .i64)) (fun x : S55 => (x.f0, x.f1))
theorem k55_open {w : World} {x : S55} {cs : List Value} (h : k55.K w x cs) : cs = [.string x.f0.f0, .string x.f0.f1, .string x.f0.f2, .string x.f0.f3, .int .i64 x.f0.f4, .int .i64 x.f1] := by
  obtain ⟨_, _, rfl, s0, rfl⟩ := h
  obtain rfl := k44_open s0
  exact rfl
theorem k55_openM {w : World} {base : Nat} {ok : Nat → Prop} {x : S55} {cs : List Value} (h : k55.M w base ok x cs) : cs = [.string x.f0.f0, .string x.f0.f1, .string x.f0.f2, .string x.f0.f3, .int .i64 x.f0.f4, .int .i64 x.f1] := by
  obtain ⟨_, _, rfl, s0, rfl⟩ := h
  obtain rfl := k44_openM s0
  exact rfl
theorem k55_mk (w : World) (x : S55)  : k55.K w x [.string x.f0.f0, .string x.f0.f1, .string x.f0.f2, .string x.f0.f3, .int .i64 x.f0.f4, .int .i64 x.f1] := ⟨[.string x.f0.f0, .string x.f0.f1, .string x.f0.f2, .string x.f0.f3, .int .i64 x.f0.f4], [.int .i64 x.f1], rfl, (k44_mk w x.f0 ), rfl⟩
theorem k55_mkM (w : World) (base : Nat) (ok : Nat → Prop) (x : S55)  : k55.M w base ok x [.string x.f0.f0, .string x.f0.f1, .string x.f0.f2, .string x.f0.f3, .int .i64 x.f0.f4, .int .i64 x.f1] := ⟨[.string x.f0.f0, .string x.f0.f1, .string x.f0.f2, .string x.f0.f3, .int .i64 x.f0.f4], [.int .i64 x.f1], rfl, (k44_mkM w base ok x.f0 ), rfl⟩
theorem k55_mkF (W : World) (ok : Nat → Prop) (x : S55) : Kd.FK k55 W ok x [.string x.f0.f0, .string x.f0.f1, .string x.f0.f2, .string x.f0.f3, .int .i64 x.f0.f4, .int .i64 x.f1] := fun W2 _ => k55_mk W2 x
def rd_T55 (xs : List S55) (i : Int) : S55 := xs.getD i.toNat z55
theorem at_T55 {w : World} {A : Option Addr} {n : Nat} {xs : List S55} (h : Kd.C k55 w A n xs) (i : Int) (h0 : 0 ≤ i) (h1 : i < n) : ∃ ad , A = some ad ∧ w.cell? (ad.add (i.toNat * 6)) = some (.string (rd_T55 xs i).f0.f0) ∧ w.cell? ⟨(ad.add (i.toNat * 6)).block, (ad.add (i.toNat * 6)).off + 1, none⟩ = some (.string (rd_T55 xs i).f0.f1) ∧ w.cell? ⟨(ad.add (i.toNat * 6)).block, (ad.add (i.toNat * 6)).off + 2, none⟩ = some (.string (rd_T55 xs i).f0.f2) ∧ w.cell? ⟨(ad.add (i.toNat * 6)).block, (ad.add (i.toNat * 6)).off + 3, none⟩ = some (.string (rd_T55 xs i).f0.f3) ∧ w.cell? ⟨(ad.add (i.toNat * 6)).block, (ad.add (i.toNat * 6)).off + 4, none⟩ = some (.int .i64 (rd_T55 xs i).f0.f4) ∧ w.cell? ⟨(ad.add (i.toNat * 6)).block, (ad.add (i.toNat * 6)).off + 5, none⟩ = some (.int .i64 (rd_T55 xs i).f1) := by
  obtain ⟨ad, c, e, _, hK, hc0⟩ := Kd.C_get h z55 i h0 h1
  have hc : ∀ j u, c[j]? = some u → w.cell? (ad.add (i.toNat * 6 + j)) = some u := hc0
  obtain rfl := k55_open hK
  exact ⟨ad, e, hc 0 _ rfl, by rw [← add_field _ _ 1 (by omega)]; exact hc 1 _ rfl, by rw [← add_field _ _ 2 (by omega)]; exact hc 2 _ rfl, by rw [← add_field _ _ 3 (by omega)]; exact hc 3 _ rfl, by rw [← add_field _ _ 4 (by omega)]; exact hc 4 _ rfl, by rw [← add_field _ _ 5 (by omega)]; exact hc 5 _ rfl⟩

def rd_L4 (xs : List (List S55)) (i : Int) : (List S55) := xs.getD i.toNat ([] : List S55)
theorem at_L4 {w : World} {A : Option Addr} {n : Nat} {xs : List (List S55)} (h : Kd.C (Kd.slice 55 k55) w A n xs) (i : Int) (h0 : 0 ≤ i) (h1 : i < n) : ∃ ad A0 c0, A = some ad ∧ w.cell? (ad.add i.toNat) = some (.slice A0 (rd_L4 xs i).length c0) ∧ (rd_L4 xs i).length ≤ c0 ∧ k55.C w A0 (rd_L4 xs i).length (rd_L4 xs i) := by
  obtain ⟨ad, c, e, _, hK, hc0⟩ := Kd.C_get h ([] : List S55) i h0 h1
  have hc : ∀ j u, c[j]? = some u → w.cell? (ad.add (i.toNat * 1 + j)) = some u := hc0
  obtain ⟨A0, c0, rfl, l0, g0⟩ := hK
  exact ⟨ad, A0, c0, e, by have hq := hc 0 _ rfl; rwa [Nat.mul_one, Nat.add_zero] at hq, l0, g0⟩

/-! #### struct type 24 -/
structure S24 where
  f0 : ByteArray
  f1 : ByteArray
  f2 : ByteArray
  f3 : ByteArray
  f4 : Int
def z24 : S24 := ⟨(⟨#[]⟩ : ByteArray), (⟨#[]⟩ : ByteArray), (⟨#[]⟩ : ByteArray), (⟨#[]⟩ : ByteArray), (0 : Int)⟩
def k24 : Kd S24 := Kd.iso (Kd.pair Kd.string (Kd.pair Kd.string (Kd.pair Kd.string (Kd.pair Kd.string (Kd.int .i64))))) (fun x : S24 => (x.f0, x.f1, x.f2, x.f3, x.f4))
theorem k24_open {w : World} {x : S24} {cs : List Value} (h : k24.K w x cs) : cs = [.string x.f0, .string x.f1, .string x.f2, .string x.f3, .int .i64 x.f4] := by
  obtain ⟨_, _, rfl, rfl, ⟨_, _, rfl, rfl, ⟨_, _, rfl, rfl, ⟨_, _, rfl, rfl, rfl⟩⟩⟩⟩ := h
  exact rfl
theorem k24_openM {w : World} {base : Nat} {ok : Nat → Prop} {x : S24} {cs : List Value} (h : k24.M w base ok x cs) : cs = [.string x.f0, .string x.f1, .string x.f2, .string x.f3, .int .i64 x.f4] := by
  obtain ⟨_, _, rfl, rfl, ⟨_, _, rfl, rfl, ⟨_, _, rfl, rfl, ⟨_, _, rfl, rfl, rfl⟩⟩⟩⟩ := h
  exact rfl
theorem k24_mk (w : World) (x : S24)  : k24.K w x [.string x.f0, .string x.f1, .string x.f2, .string x.f3, .int .i64 x.f4] := ⟨[.string x.f0], [.string x.f1, .string x.f2, .string x.f3, .int .i64 x.f4], rfl, rfl, ⟨[.string x.f1], [.string x.f2, .string x.f3, .int .i64 x.f4], rfl, rfl, ⟨[.string x.f2], [.string x.f3, .int .i64 x.f4], rfl, rfl, ⟨[.string x.f3], [.int .i64 x.f4], rfl, rfl, rfl⟩⟩⟩⟩
theorem k24_mkM (w : World) (base : Nat) (ok : Nat → Prop) (x : S24)  : k24.M w base ok x [.string x.f0, .string x.f1, .string x.f2, .string x.f3, .int .i64 x.f4] := ⟨[.string x.f0], [.string x.f1, .string x.f2, .string x.f3, .int .i64 x.f4], rfl, rfl, ⟨[.string x.f1], [.string x.f2, .string x.f3, .int .i64 x.f4], rfl, rfl, ⟨[.string x.f2], [.string x.f3, .int .i64 x.f4], rfl, rfl, ⟨[.string x.f3], [.int .i64 x.f4], rfl, rfl, rfl⟩⟩⟩⟩
theorem k24_mkF (W : World) (ok : Nat → Prop) (x : S24) : Kd.FK k24 W ok x [.string x.f0, .string x.f1, .string x.f2, .string x.f3, .int .i64 x.f4] := fun W2 _ => k24_mk W2 x
def rd_T24 (xs : List S24) (i : Int) : S24 := xs.getD i.toNat z24
theorem at_T24 {w : World} {A : Option Addr} {n : Nat} {xs : List S24} (h : Kd.C k24 w A n xs) (i : Int) (h0 : 0 ≤ i) (h1 : i < n) : ∃ ad , A = some ad ∧ w.cell? (ad.add (i.toNat * 5)) = some (.string (rd_T24 xs i).f0) ∧ w.cell? ⟨(ad.add (i.toNat * 5)).block, (ad.add (i.toNat * 5)).off + 1, none⟩ = some (.string (rd_T24 xs i).f1) ∧ w.cell? ⟨(ad.add (i.toNat * 5)).block, (ad.add (i.toNat * 5)).off + 2, none⟩ = some (.string (rd_T24 xs i).f2) ∧ w.cell? ⟨(ad.add (i.toNat * 5)).block, (ad.add (i.toNat * 5)).off + 3, none⟩ = some (.string (rd_T24 xs i).f3) ∧ w.cell? ⟨(ad.add (i.toNat * 5)).block, (ad.add (i.toNat * 5)).off + 4, none⟩ = some (.int .i64 (rd_T24 xs i).f4) := by
  obtain ⟨ad, c, e, _, hK, hc0⟩ := Kd.C_get h z24 i h0 h1
  have hc : ∀ j u, c[j]? = some u → w.cell? (ad.add (i.toNat * 5 + j)) = some u := hc0
  obtain rfl := k24_open hK
  exact ⟨ad, e, hc 0 _ rfl, by rw [← add_field _ _ 1 (by omega)]; exact hc 1 _ rfl, by rw [← add_field _ _ 2 (by omega)]; exact hc 2 _ rfl, by rw [← add_field _ _ 3 (by omega)]; exact hc 3 _ rfl, by rw [← add_field _ _ 4 (by omega)]; exact hc 4 _ rfl⟩

/-! #### struct type 28 -/
structure S28 where
  f0 : S24
  f1 : Int
def z28 : S28 := ⟨z24, (0 : Int)⟩
def k28 : Kd S28 := Kd.iso (Kd.pair k24 (Kd.int .i64)) (fun x : S28 => (x.f0, x.f1))
theorem k28_open {w : World} {x : S28} {cs : List Value} (h : k28.K w x cs) : cs = [.string x.f0.f0, .string x.f0.f1, .string x.f0.f2, .string x.f0.f3, .int .i64 x.f0.f4, .int .i64 x.f1] := by
  obtain ⟨_, _, rfl, s0, rfl⟩ := h
  obtain rfl := k24_open s0
  exact rfl
theorem k28_openM {w : World} {base : Nat} {ok : Nat → Prop} {x : S28} {cs : List Value} (h : k28.M w base ok x cs) : cs = [.string x.f0.f0, .string x.f0.f1, .string x.f0.f2, .string x.f0.f3, .int .i64 x.f0.f4, .int .i64 x.f1] := by
  obtain ⟨_, _, rfl, s0, rfl⟩ := h
  obtain rfl := k24_openM s0
  exact rfl
theorem k28_mk (w : World) (x : S28)  : k28.K w x [.string x.f0.f0, .string x.f0.f1, .string x.f0.f2, .string x.f0.f3, .int .i64 x.f0.f4, .int .i64 x.f1] := ⟨[.string x.f0.f0, .string x.f0.f1, .string x.f0.f2, .string x.f0.f3, .int .i64 x.f0.f4], [.int .i64 x.f1], rfl, (k24_mk w x.f0 ), rfl⟩
theorem k28_mkM (w : World) (base : Nat) (ok : Nat → Prop) (x : S28)  : k28.M w base ok x [.string x.f0.f0, .string x.f0.f1, .string x.f0.f2, .string x.f0.f3, .int .i64 x.f0.f4, .int .i64 x.f1] := ⟨[.string x.f0.f0, .string x.f0.f1, .string x.f0.f2, .string x.f0.f3, .int .i64 x.f0.f4], [.int .i64 x.f1], rfl, (k24_mkM w base ok x.f0 ), rfl⟩
theorem k28_mkF (W : World) (ok : Nat → Prop) (x : S28) : Kd.FK k28 W ok x [.string x.f0.f0, .string x.f0.f1, .string x.f0.f2, .string x.f0.f3, .int .i64 x.f0.f4, .int .i64 x.f1] := fun W2 _ => k28_mk W2 x
def rd_T28 (xs : List S28) (i : Int) : S28 := xs.getD i.toNat z28
theorem at_T28 {w : World} {A : Option Addr} {n : Nat} {xs : List S28} (h : Kd.C k28 w A n xs) (i : Int) (h0 : 0 ≤ i) (h1 : i < n) : ∃ ad , A = some ad ∧ w.cell? (ad.add (i.toNat * 6)) = some (.string (rd_T28 xs i).f0.f0) ∧ w.cell? ⟨(ad.add (i.toNat * 6)).block, (ad.add (i.toNat * 6)).off + 1, none⟩ = some (.string (rd_T28 xs i).f0.f1) ∧ w.cell? ⟨(ad.add (i.toNat * 6)).block, (ad.add (i.toNat * 6)).off + 2, none⟩ = some (.string (rd_T28 xs i).f0.f2) ∧ w.cell? ⟨(ad.add (i.toNat * 6)).block, (ad.add (i.toNat * 6)).off + 3, none⟩ = some (.string (rd_T28 xs i).f0.f3) ∧ w.cell? ⟨(ad.add (i.toNat * 6)).block, (ad.add (i.toNat * 6)).off + 4, none⟩ = some (.int .i64 (rd_T28 xs i).f0.f4) ∧ w.cell? ⟨(ad.add (i.toNat * 6)).block, (ad.add (i.toNat * 6)).off + 5, none⟩ = some (.int .i64 (rd_T28 xs i).f1) := by
  obtain ⟨ad, c, e, _, hK, hc0⟩ := Kd.C_get h z28 i h0 h1
  have hc : ∀ j u, c[j]? = some u → w.cell? (ad.add (i.toNat * 6 + j)) = some u := hc0
  obtain rfl := k28_open hK
  exact ⟨ad, e, hc 0 _ rfl, by rw [← add_field _ _ 1 (by omega)]; exact hc 1 _ rfl, by rw [← add_field _ _ 2 (by omega)]; exact hc 2 _ rfl, by rw [← add_field _ _ 3 (by omega)]; exact hc 3 _ rfl, by rw [← add_field _ _ 4 (by omega)]; exact hc 4 _ rfl, by rw [← add_field _ _ 5 (by omega)]; exact hc 5 _ rfl⟩

end Go.Proofs.Ytdckeflggcefbaa.Y
namespace Go.Proofs.Ytdckeflggcefbaa.Y
open Go.RowKit Go.Proofs.YtdckeflggcefbaaW.PrintWords Go.Proofs.YtdckeflggcefbaaW.PrintLast Go.Proofs.YtdckeflggcefbaaW.PrintMore
theorem bw {p : Prop} (h : p := by repeat (first | (with_reducible first | exact HB.out | apply below_alloc | apply pw_below_drewN | apply below_drew1) | exact HB.out)) : p := h
theorem cb {w w' : World} {a : Addr} {v : Value} (hB : Aside0 (Below w.heap.size w w')) (h : w.cell? a = some v) : w'.cell? a = some v := (hB.out.cell (World.block_lt_of_cell? w _ h)).trans h
theorem as_ {p : Prop} (h : p := by first | (with_reducible assumption) | assumption) : p := h
theorem mp_ {p : Prop} (h : p := by (try simp only [List.map_toArray, List.map_cons, List.map_nil]); first | done | rfl | (simp only [List.length_drop, List.length_take]; rfl)) : p := h
theorem kr {p q : Prop} (a : Aside0 p) (h : p → q := by intro h_; (with_reducible repeat (first | apply Kd.R_alloc | apply Kd.R_drewN | apply Kd.R_drew)); exact h_) : q := h a.out
theorem rs_ {p : Prop} (h : p := by first | rfl | (simp; done) | (simp [*]; done)) : p := h
theorem re_ {p : Prop} (h : p := by first | rfl | (simp [errW_none, errW_some] <;> rfl) | (simp [*, errW_none, errW_some] <;> rfl)) : p := h
end Go.Proofs.Ytdckeflggcefbaa.Y
namespace Go.Proofs.Ytdckeflggcefbaa.Y
open Go.RowKit Go.Proofs.YtdckeflggcefbaaW.PrintWords Go.Proofs.YtdckeflggcefbaaW.PrintLast Go.Proofs.YtdckeflggcefbaaW.PrintMore
set_option linter.unusedVariables false
/-- Which of a region's n operations are done: the bits of m. -/
def fl (n m : Nat) : Array Bool := ((List.range n).map fun j => m.testBit j).toArray
theorem bx {p : Prop} (h : p := by repeat (first | (with_reducible first | exact HB.out | apply below_alloc | apply pw_below_drewN | apply below_drew1 | refine below_set ?_ (Aside0.out (by assumption))) | exact HB.out)) : p := h
theorem kp_ {p : Prop} (h : p := by repeat (first | (with_reducible first | exact HK.out | apply Kept.alloc | apply Kept.drewN | apply Kept.drew) | exact HK.out)) : p := h
theorem rh {p q : Prop} {α : Type} {a b : α} (e : a = b) (H : p) (h : a = b → p → q := by intro e_ H_; first | (rw [e_]; with_reducible exact H_) | (have H2_ := (Option.bind_some _ _).symm.trans H_; rw [e_]; with_reducible exact H2_) | (have H2_ := (Option.bind_some _ _).symm.trans H_; with_reducible exact H2_) | with_reducible exact H_ | (rw [e_]; exact H_) | exact H_) : q := h e H
theorem cb2 {w w' : World} {a : Addr} {v : Value} (hb : Below w.heap.size w w') (h : w.cell? a = some v) : w'.cell? a = some v := (hb.cell (World.block_lt_of_cell? _ _ h)).trans h
theorem cfa {w : World} {a : Addr} {v : Value} (p : Addr) (u : Value) (h : w.cell? a = some v) (hn : a.block ≠ p.block := by first | (rw [add_block]; assumption) | (show (Addr.add _ _).block ≠ _; rw [add_block]; assumption) | assumption) : (w.setCell p u).cell? a = some v := (cell_far hn u).trans h
theorem cf24 {w : World} {a : Addr} {v : Value} (g : Nat) (k : S24) (h : w.cell? a = some v) (hn : a.block ≠ g := by first | (rw [add_block]; assumption) | (show (Addr.add _ _).block ≠ _; rw [add_block]; assumption) | assumption) : (((((w.setCell ⟨g, 0, none⟩ (.string k.f0)).setCell ⟨g, 1, none⟩ (.string k.f1)).setCell ⟨g, 2, none⟩ (.string k.f2)).setCell ⟨g, 3, none⟩ (.string k.f3)).setCell ⟨g, 4, none⟩ (.int .i64 k.f4)).cell? a = some v := cfa ⟨g, 4, none⟩ (.int .i64 k.f4) (cfa ⟨g, 3, none⟩ (.string k.f3) (cfa ⟨g, 2, none⟩ (.string k.f2) (cfa ⟨g, 1, none⟩ (.string k.f1) (cfa ⟨g, 0, none⟩ (.string k.f0) h hn) hn) hn) hn) hn
def c24 : Nat → S24 → Array Value
  | 0, k => #[Value.string (⟨#[]⟩ : ByteArray), Value.string (⟨#[]⟩ : ByteArray), Value.string (⟨#[]⟩ : ByteArray), Value.string (⟨#[]⟩ : ByteArray), Value.int .i64 0]
  | 1, k => #[.string k.f0, Value.string (⟨#[]⟩ : ByteArray), Value.string (⟨#[]⟩ : ByteArray), Value.string (⟨#[]⟩ : ByteArray), Value.int .i64 0]
  | 2, k => #[.string k.f0, .string k.f1, Value.string (⟨#[]⟩ : ByteArray), Value.string (⟨#[]⟩ : ByteArray), Value.int .i64 0]
  | 3, k => #[.string k.f0, .string k.f1, .string k.f2, Value.string (⟨#[]⟩ : ByteArray), Value.int .i64 0]
  | 4, k => #[.string k.f0, .string k.f1, .string k.f2, .string k.f3, Value.int .i64 0]
  | _, k => #[.string k.f0, .string k.f1, .string k.f2, .string k.f3, .int .i64 k.f4]
theorem bp24 {p q : Prop} (b : Aside0 p) (k : S24) (h : let kk_ : S24 := k; p → q := by intro kk_ b_; (with_reducible repeat (first | refine blk_drewN ?_ _ | refine blk_drew ?_ | refine blk_alloc ?_ _)); refine blk_put (cs := c24 4 kk_) ?_ 4 _ rfl; (with_reducible repeat (first | refine blk_drewN ?_ _ | refine blk_drew ?_ | refine blk_alloc ?_ _)); refine blk_put (cs := c24 3 kk_) ?_ 3 _ rfl; (with_reducible repeat (first | refine blk_drewN ?_ _ | refine blk_drew ?_ | refine blk_alloc ?_ _)); refine blk_put (cs := c24 2 kk_) ?_ 2 _ rfl; (with_reducible repeat (first | refine blk_drewN ?_ _ | refine blk_drew ?_ | refine blk_alloc ?_ _)); refine blk_put (cs := c24 1 kk_) ?_ 1 _ rfl; (with_reducible repeat (first | refine blk_drewN ?_ _ | refine blk_drew ?_ | refine blk_alloc ?_ _)); refine blk_put (cs := c24 0 kk_) ?_ 0 _ rfl; (with_reducible repeat (first | refine blk_drewN ?_ _ | refine blk_drew ?_ | refine blk_alloc ?_ _)); exact b_) : q := h b.out
theorem rf24 {α : Type} {d : Kd α} {e : Nat} {w : World} {base : Nat} {ok : Nat → Prop} {v : Value} {xs : List α} (g : Nat) (k : S24) (h : d.R e w base ok v xs) (hok : ∀ k, ok k → k ≠ g) : d.R e (((((w.setCell ⟨g, 0, none⟩ (.string k.f0)).setCell ⟨g, 1, none⟩ (.string k.f1)).setCell ⟨g, 2, none⟩ (.string k.f2)).setCell ⟨g, 3, none⟩ (.string k.f3)).setCell ⟨g, 4, none⟩ (.int .i64 k.f4)) base ok v xs := Kd.R_far (p := ⟨g, 4, none⟩) (Kd.R_far (p := ⟨g, 3, none⟩) (Kd.R_far (p := ⟨g, 2, none⟩) (Kd.R_far (p := ⟨g, 1, none⟩) (Kd.R_far (p := ⟨g, 0, none⟩) h hok (.string k.f0)) hok (.string k.f1)) hok (.string k.f2)) hok (.string k.f3)) hok (.int .i64 k.f4)
theorem cf44 {w : World} {a : Addr} {v : Value} (g : Nat) (k : S44) (h : w.cell? a = some v) (hn : a.block ≠ g := by first | (rw [add_block]; assumption) | (show (Addr.add _ _).block ≠ _; rw [add_block]; assumption) | assumption) : (((((w.setCell ⟨g, 0, none⟩ (.string k.f0)).setCell ⟨g, 1, none⟩ (.string k.f1)).setCell ⟨g, 2, none⟩ (.string k.f2)).setCell ⟨g, 3, none⟩ (.string k.f3)).setCell ⟨g, 4, none⟩ (.int .i64 k.f4)).cell? a = some v := cfa ⟨g, 4, none⟩ (.int .i64 k.f4) (cfa ⟨g, 3, none⟩ (.string k.f3) (cfa ⟨g, 2, none⟩ (.string k.f2) (cfa ⟨g, 1, none⟩ (.string k.f1) (cfa ⟨g, 0, none⟩ (.string k.f0) h hn) hn) hn) hn) hn
def c44 : Nat → S44 → Array Value
  | 0, k => #[Value.string (⟨#[]⟩ : ByteArray), Value.string (⟨#[]⟩ : ByteArray), Value.string (⟨#[]⟩ : ByteArray), Value.string (⟨#[]⟩ : ByteArray), Value.int .i64 0]
  | 1, k => #[.string k.f0, Value.string (⟨#[]⟩ : ByteArray), Value.string (⟨#[]⟩ : ByteArray), Value.string (⟨#[]⟩ : ByteArray), Value.int .i64 0]
  | 2, k => #[.string k.f0, .string k.f1, Value.string (⟨#[]⟩ : ByteArray), Value.string (⟨#[]⟩ : ByteArray), Value.int .i64 0]
  | 3, k => #[.string k.f0, .string k.f1, .string k.f2, Value.string (⟨#[]⟩ : ByteArray), Value.int .i64 0]
  | 4, k => #[.string k.f0, .string k.f1, .string k.f2, .string k.f3, Value.int .i64 0]
  | _, k => #[.string k.f0, .string k.f1, .string k.f2, .string k.f3, .int .i64 k.f4]
theorem bp44 {p q : Prop} (b : Aside0 p) (k : S44) (h : let kk_ : S44 := k; p → q := by intro kk_ b_; (with_reducible repeat (first | refine blk_drewN ?_ _ | refine blk_drew ?_ | refine blk_alloc ?_ _)); refine blk_put (cs := c44 4 kk_) ?_ 4 _ rfl; (with_reducible repeat (first | refine blk_drewN ?_ _ | refine blk_drew ?_ | refine blk_alloc ?_ _)); refine blk_put (cs := c44 3 kk_) ?_ 3 _ rfl; (with_reducible repeat (first | refine blk_drewN ?_ _ | refine blk_drew ?_ | refine blk_alloc ?_ _)); refine blk_put (cs := c44 2 kk_) ?_ 2 _ rfl; (with_reducible repeat (first | refine blk_drewN ?_ _ | refine blk_drew ?_ | refine blk_alloc ?_ _)); refine blk_put (cs := c44 1 kk_) ?_ 1 _ rfl; (with_reducible repeat (first | refine blk_drewN ?_ _ | refine blk_drew ?_ | refine blk_alloc ?_ _)); refine blk_put (cs := c44 0 kk_) ?_ 0 _ rfl; (with_reducible repeat (first | refine blk_drewN ?_ _ | refine blk_drew ?_ | refine blk_alloc ?_ _)); exact b_) : q := h b.out
theorem rf44 {α : Type} {d : Kd α} {e : Nat} {w : World} {base : Nat} {ok : Nat → Prop} {v : Value} {xs : List α} (g : Nat) (k : S44) (h : d.R e w base ok v xs) (hok : ∀ k, ok k → k ≠ g) : d.R e (((((w.setCell ⟨g, 0, none⟩ (.string k.f0)).setCell ⟨g, 1, none⟩ (.string k.f1)).setCell ⟨g, 2, none⟩ (.string k.f2)).setCell ⟨g, 3, none⟩ (.string k.f3)).setCell ⟨g, 4, none⟩ (.int .i64 k.f4)) base ok v xs := Kd.R_far (p := ⟨g, 4, none⟩) (Kd.R_far (p := ⟨g, 3, none⟩) (Kd.R_far (p := ⟨g, 2, none⟩) (Kd.R_far (p := ⟨g, 1, none⟩) (Kd.R_far (p := ⟨g, 0, none⟩) h hok (.string k.f0)) hok (.string k.f1)) hok (.string k.f2)) hok (.string k.f3)) hok (.int .i64 k.f4)
theorem cf28 {w : World} {a : Addr} {v : Value} (g : Nat) (k : S28) (h : w.cell? a = some v) (hn : a.block ≠ g := by first | (rw [add_block]; assumption) | (show (Addr.add _ _).block ≠ _; rw [add_block]; assumption) | assumption) : ((((((w.setCell ⟨g, 0, none⟩ (.string k.f0.f0)).setCell ⟨g, 1, none⟩ (.string k.f0.f1)).setCell ⟨g, 2, none⟩ (.string k.f0.f2)).setCell ⟨g, 3, none⟩ (.string k.f0.f3)).setCell ⟨g, 4, none⟩ (.int .i64 k.f0.f4)).setCell ⟨g, 5, none⟩ (.int .i64 k.f1)).cell? a = some v := cfa ⟨g, 5, none⟩ (.int .i64 k.f1) (cfa ⟨g, 4, none⟩ (.int .i64 k.f0.f4) (cfa ⟨g, 3, none⟩ (.string k.f0.f3) (cfa ⟨g, 2, none⟩ (.string k.f0.f2) (cfa ⟨g, 1, none⟩ (.string k.f0.f1) (cfa ⟨g, 0, none⟩ (.string k.f0.f0) h hn) hn) hn) hn) hn) hn
def c28 : Nat → S28 → Array Value
  | 0, k => #[Value.string (⟨#[]⟩ : ByteArray), Value.string (⟨#[]⟩ : ByteArray), Value.string (⟨#[]⟩ : ByteArray), Value.string (⟨#[]⟩ : ByteArray), Value.int .i64 0, Value.int .i64 0]
  | 1, k => #[.string k.f0.f0, Value.string (⟨#[]⟩ : ByteArray), Value.string (⟨#[]⟩ : ByteArray), Value.string (⟨#[]⟩ : ByteArray), Value.int .i64 0, Value.int .i64 0]
  | 2, k => #[.string k.f0.f0, .string k.f0.f1, Value.string (⟨#[]⟩ : ByteArray), Value.string (⟨#[]⟩ : ByteArray), Value.int .i64 0, Value.int .i64 0]
  | 3, k => #[.string k.f0.f0, .string k.f0.f1, .string k.f0.f2, Value.string (⟨#[]⟩ : ByteArray), Value.int .i64 0, Value.int .i64 0]
  | 4, k => #[.string k.f0.f0, .string k.f0.f1, .string k.f0.f2, .string k.f0.f3, Value.int .i64 0, Value.int .i64 0]
  | 5, k => #[.string k.f0.f0, .string k.f0.f1, .string k.f0.f2, .string k.f0.f3, .int .i64 k.f0.f4, Value.int .i64 0]
  | _, k => #[.string k.f0.f0, .string k.f0.f1, .string k.f0.f2, .string k.f0.f3, .int .i64 k.f0.f4, .int .i64 k.f1]
theorem bp28 {p q : Prop} (b : Aside0 p) (k : S28) (h : let kk_ : S28 := k; p → q := by intro kk_ b_; (with_reducible repeat (first | refine blk_drewN ?_ _ | refine blk_drew ?_ | refine blk_alloc ?_ _)); refine blk_put (cs := c28 5 kk_) ?_ 5 _ rfl; (with_reducible repeat (first | refine blk_drewN ?_ _ | refine blk_drew ?_ | refine blk_alloc ?_ _)); refine blk_put (cs := c28 4 kk_) ?_ 4 _ rfl; (with_reducible repeat (first | refine blk_drewN ?_ _ | refine blk_drew ?_ | refine blk_alloc ?_ _)); refine blk_put (cs := c28 3 kk_) ?_ 3 _ rfl; (with_reducible repeat (first | refine blk_drewN ?_ _ | refine blk_drew ?_ | refine blk_alloc ?_ _)); refine blk_put (cs := c28 2 kk_) ?_ 2 _ rfl; (with_reducible repeat (first | refine blk_drewN ?_ _ | refine blk_drew ?_ | refine blk_alloc ?_ _)); refine blk_put (cs := c28 1 kk_) ?_ 1 _ rfl; (with_reducible repeat (first | refine blk_drewN ?_ _ | refine blk_drew ?_ | refine blk_alloc ?_ _)); refine blk_put (cs := c28 0 kk_) ?_ 0 _ rfl; (with_reducible repeat (first | refine blk_drewN ?_ _ | refine blk_drew ?_ | refine blk_alloc ?_ _)); exact b_) : q := h b.out
theorem rf28 {α : Type} {d : Kd α} {e : Nat} {w : World} {base : Nat} {ok : Nat → Prop} {v : Value} {xs : List α} (g : Nat) (k : S28) (h : d.R e w base ok v xs) (hok : ∀ k, ok k → k ≠ g) : d.R e ((((((w.setCell ⟨g, 0, none⟩ (.string k.f0.f0)).setCell ⟨g, 1, none⟩ (.string k.f0.f1)).setCell ⟨g, 2, none⟩ (.string k.f0.f2)).setCell ⟨g, 3, none⟩ (.string k.f0.f3)).setCell ⟨g, 4, none⟩ (.int .i64 k.f0.f4)).setCell ⟨g, 5, none⟩ (.int .i64 k.f1)) base ok v xs := Kd.R_far (p := ⟨g, 5, none⟩) (Kd.R_far (p := ⟨g, 4, none⟩) (Kd.R_far (p := ⟨g, 3, none⟩) (Kd.R_far (p := ⟨g, 2, none⟩) (Kd.R_far (p := ⟨g, 1, none⟩) (Kd.R_far (p := ⟨g, 0, none⟩) h hok (.string k.f0.f0)) hok (.string k.f0.f1)) hok (.string k.f0.f2)) hok (.string k.f0.f3)) hok (.int .i64 k.f0.f4)) hok (.int .i64 k.f1)
theorem cf55 {w : World} {a : Addr} {v : Value} (g : Nat) (k : S55) (h : w.cell? a = some v) (hn : a.block ≠ g := by first | (rw [add_block]; assumption) | (show (Addr.add _ _).block ≠ _; rw [add_block]; assumption) | assumption) : ((((((w.setCell ⟨g, 0, none⟩ (.string k.f0.f0)).setCell ⟨g, 1, none⟩ (.string k.f0.f1)).setCell ⟨g, 2, none⟩ (.string k.f0.f2)).setCell ⟨g, 3, none⟩ (.string k.f0.f3)).setCell ⟨g, 4, none⟩ (.int .i64 k.f0.f4)).setCell ⟨g, 5, none⟩ (.int .i64 k.f1)).cell? a = some v := cfa ⟨g, 5, none⟩ (.int .i64 k.f1) (cfa ⟨g, 4, none⟩ (.int .i64 k.f0.f4) (cfa ⟨g, 3, none⟩ (.string k.f0.f3) (cfa ⟨g, 2, none⟩ (.string k.f0.f2) (cfa ⟨g, 1, none⟩ (.string k.f0.f1) (cfa ⟨g, 0, none⟩ (.string k.f0.f0) h hn) hn) hn) hn) hn) hn
def c55 : Nat → S55 → Array Value
  | 0, k => #[Value.string (⟨#[]⟩ : ByteArray), Value.string (⟨#[]⟩ : ByteArray), Value.string (⟨#[]⟩ : ByteArray), Value.string (⟨#[]⟩ : ByteArray), Value.int .i64 0, Value.int .i64 0]
  | 1, k => #[.string k.f0.f0, Value.string (⟨#[]⟩ : ByteArray), Value.string (⟨#[]⟩ : ByteArray), Value.string (⟨#[]⟩ : ByteArray), Value.int .i64 0, Value.int .i64 0]
  | 2, k => #[.string k.f0.f0, .string k.f0.f1, Value.string (⟨#[]⟩ : ByteArray), Value.string (⟨#[]⟩ : ByteArray), Value.int .i64 0, Value.int .i64 0]
  | 3, k => #[.string k.f0.f0, .string k.f0.f1, .string k.f0.f2, Value.string (⟨#[]⟩ : ByteArray), Value.int .i64 0, Value.int .i64 0]
  | 4, k => #[.string k.f0.f0, .string k.f0.f1, .string k.f0.f2, .string k.f0.f3, Value.int .i64 0, Value.int .i64 0]
  | 5, k => #[.string k.f0.f0, .string k.f0.f1, .string k.f0.f2, .string k.f0.f3, .int .i64 k.f0.f4, Value.int .i64 0]
  | _, k => #[.string k.f0.f0, .string k.f0.f1, .string k.f0.f2, .string k.f0.f3, .int .i64 k.f0.f4, .int .i64 k.f1]
theorem bp55 {p q : Prop} (b : Aside0 p) (k : S55) (h : let kk_ : S55 := k; p → q := by intro kk_ b_; (with_reducible repeat (first | refine blk_drewN ?_ _ | refine blk_drew ?_ | refine blk_alloc ?_ _)); refine blk_put (cs := c55 5 kk_) ?_ 5 _ rfl; (with_reducible repeat (first | refine blk_drewN ?_ _ | refine blk_drew ?_ | refine blk_alloc ?_ _)); refine blk_put (cs := c55 4 kk_) ?_ 4 _ rfl; (with_reducible repeat (first | refine blk_drewN ?_ _ | refine blk_drew ?_ | refine blk_alloc ?_ _)); refine blk_put (cs := c55 3 kk_) ?_ 3 _ rfl; (with_reducible repeat (first | refine blk_drewN ?_ _ | refine blk_drew ?_ | refine blk_alloc ?_ _)); refine blk_put (cs := c55 2 kk_) ?_ 2 _ rfl; (with_reducible repeat (first | refine blk_drewN ?_ _ | refine blk_drew ?_ | refine blk_alloc ?_ _)); refine blk_put (cs := c55 1 kk_) ?_ 1 _ rfl; (with_reducible repeat (first | refine blk_drewN ?_ _ | refine blk_drew ?_ | refine blk_alloc ?_ _)); refine blk_put (cs := c55 0 kk_) ?_ 0 _ rfl; (with_reducible repeat (first | refine blk_drewN ?_ _ | refine blk_drew ?_ | refine blk_alloc ?_ _)); exact b_) : q := h b.out
theorem rf55 {α : Type} {d : Kd α} {e : Nat} {w : World} {base : Nat} {ok : Nat → Prop} {v : Value} {xs : List α} (g : Nat) (k : S55) (h : d.R e w base ok v xs) (hok : ∀ k, ok k → k ≠ g) : d.R e ((((((w.setCell ⟨g, 0, none⟩ (.string k.f0.f0)).setCell ⟨g, 1, none⟩ (.string k.f0.f1)).setCell ⟨g, 2, none⟩ (.string k.f0.f2)).setCell ⟨g, 3, none⟩ (.string k.f0.f3)).setCell ⟨g, 4, none⟩ (.int .i64 k.f0.f4)).setCell ⟨g, 5, none⟩ (.int .i64 k.f1)) base ok v xs := Kd.R_far (p := ⟨g, 5, none⟩) (Kd.R_far (p := ⟨g, 4, none⟩) (Kd.R_far (p := ⟨g, 3, none⟩) (Kd.R_far (p := ⟨g, 2, none⟩) (Kd.R_far (p := ⟨g, 1, none⟩) (Kd.R_far (p := ⟨g, 0, none⟩) h hok (.string k.f0.f0)) hok (.string k.f0.f1)) hok (.string k.f0.f2)) hok (.string k.f0.f3)) hok (.int .i64 k.f0.f4)) hok (.int .i64 k.f1)
theorem bc5 {w : World} {g : Nat} {t : TypeId} {v0 v1 v2 v3 v4 : Value} (h : w.heap[g]? = some (.cells #[v0, v1, v2, v3, v4] t (0, 0))) : w.cell? ⟨g, 0, none⟩ = some v0 ∧ w.cell? ⟨g, 1, none⟩ = some v1 ∧ w.cell? ⟨g, 2, none⟩ = some v2 ∧ w.cell? ⟨g, 3, none⟩ = some v3 ∧ w.cell? ⟨g, 4, none⟩ = some v4 := ⟨(blk_cell h 0).trans rfl, (blk_cell h 1).trans rfl, (blk_cell h 2).trans rfl, (blk_cell h 3).trans rfl, (blk_cell h 4).trans rfl⟩
theorem bc6 {w : World} {g : Nat} {t : TypeId} {v0 v1 v2 v3 v4 v5 : Value} (h : w.heap[g]? = some (.cells #[v0, v1, v2, v3, v4, v5] t (0, 0))) : w.cell? ⟨g, 0, none⟩ = some v0 ∧ w.cell? ⟨g, 1, none⟩ = some v1 ∧ w.cell? ⟨g, 2, none⟩ = some v2 ∧ w.cell? ⟨g, 3, none⟩ = some v3 ∧ w.cell? ⟨g, 4, none⟩ = some v4 ∧ w.cell? ⟨g, 5, none⟩ = some v5 := ⟨(blk_cell h 0).trans rfl, (blk_cell h 1).trans rfl, (blk_cell h 2).trans rfl, (blk_cell h 3).trans rfl, (blk_cell h 4).trans rfl, (blk_cell h 5).trans rfl⟩
section
variable {P : Program} {ops : Array Oper} {Q : Exit → Act → World → Prop} {md : Region.Mode} {S : World → Prop} {ds : List Nat} {T : Bool × List (List Nat × List Nat)} {B : List Nat}
theorem pu (i : Nat) (N : Option Tmp) {oi : Oper} {v : Value} {fuel : Nat} {l : Array Bool} {a : Act} {w : World} (l' : Array Bool) (hT : Aside0 (rtab md ops = T)) {a' : Act} (h : wpAnyLast P md ops Q S ds fuel l' a' w)
    (hi : ops[i]? = some oi := by exact rfl) (hN : oi.dst = N := by exact rfl) (hc : anyT T l.toList l'.toList i = true := by kernel_rfl) (hQ : ∀ c a w, Q (.panic c) (a.put oi.dst v) w → Q (.panic c) a w := by exact fun _ _ _ h => h)
    (hw : Region.wanted oi (yielded ops a.tmps) = true := by rfl) (hy : ∀ w', (execOp a.eval oi).run P w' = .ok (.value v) w' := by intro w'; go_simp; with_reducible rfl)
    (ha : a.put N v = a' := by simp only [Act.put, List.setIfInBounds_toArray, List.set_cons_zero, List.set_cons_succ, i64_w, i32_w]; rfl) : wpAnyLast P md ops Q S ds (fuel + 1) l a w :=
  pure_ l' hi hN (any_of hT.out hc) hQ (Or.inl ⟨hw, hy⟩) ha h
theorem tu (i : Nat) (N : Option Tmp) {oi : Oper} {v : Value} {fuel : Nat} {l : Array Bool} {a : Act} {w : World} (l' : Array Bool) (hT : Aside0 (rtab md ops = T)) (hB : Aside0 (waitsOk T.2 B = true)) (hS : S w) {a' : Act} (h : wpAnyLast P md ops Q S ds fuel l' a' w)
    (hi : ops[i]? = some oi := by exact rfl) (hN : oi.dst = N := by exact rfl) (hc : takeW T B ds l.toList l'.toList i = true := by kernel_rfl) (hQ : ∀ c a w, Q (.panic c) (a.put oi.dst v) w → Q (.panic c) a w := by exact fun _ _ _ h => h)
    (hw : Region.wanted oi (yielded ops a.tmps) = true := by rfl) (hy : ∀ w', S w' → (execOp a.eval oi).run P w' = .ok (.value v) w' := by intro w' h_; (repeat (obtain ⟨_, h_⟩ := h_)); go_simp; with_reducible rfl)
    (ha : a.put N v = a' := by simp only [Act.put, List.setIfInBounds_toArray, List.set_cons_zero, List.set_cons_succ, i64_w, i32_w]; rfl) : wpAnyLast P md ops Q S ds (fuel + 1) l a w :=
  take_ l' hi hN (take_ofW hT.out hB.out hc) hQ (Or.inl ⟨hw, hy⟩) hS ha h
end
end Go.Proofs.Ytdckeflggcefbaa.Y
namespace Go.Proofs.Ytdckeflggcefbaa.Y
open Go.RowKit Go.Proofs.YtdckeflggcefbaaW.PrintWords Go.Proofs.YtdckeflggcefbaaW.PrintLast Go.Proofs.YtdckeflggcefbaaW.PrintMore
attribute [local go_sem] max2_int min2_int max_two min_two max_three min_three max_four min_four
set_option linter.unusedVariables false
set_option linter.unusedSimpArgs false

/-! ### cmp_Or_int: function 36 -/
def cmp_Or_int.l0 : Nat → Int → List Int → Int → Int → Option (Int)
 | 0, _, _, _, _ => none
 | k + 1, x3, x6, x7, x8 => if x8 < x7 then (if 0 ≤ x8 then (if x8 < (x6.length : Int) then (if (rd x6 x8) = x3 then (cmp_Or_int.l0 k x3 x6 x7 (wrap64 (x8 + 1))) else (some (rd x6 x8))) else (none)) else (none)) else (some x3)
def cmp_Or_int.f (k : Nat) (l0 : List Int) : Option (Int) := cmp_Or_int.l0 k 0 l0 (l0.length : Int) 0
theorem cmp_Or_int.mono_l : ∀ k, (∀ y0 y1 y2 y3, LeO (cmp_Or_int.l0 k y0 y1 y2 y3) (cmp_Or_int.l0 (k + 1) y0 y1 y2 y3))
 | 0 => fun _ _ _ _ r h => by simp [cmp_Or_int.l0] at h
 | k + 1 => by
  have ih0 := cmp_Or_int.mono_l k
  ·intro y0 y1 y2 y3
   unfold cmp_Or_int.l0
   with_reducible repeat' first | apply ih0 | refine LeO.refl _ | refine LeO.none _ | refine LeO.ite ?_ ?_ | refine LeO.bind ?_ (fun _ => ?_)
theorem cmp_Or_int.mono : ∀ a0 k, LeO (cmp_Or_int.f k a0) (cmp_Or_int.f (k + 1) a0) := by
 intro a0 k
 have ih0 := cmp_Or_int.mono_l k
 unfold cmp_Or_int.f
 with_reducible repeat' first | apply ih0 | refine LeO.refl _ | refine LeO.none _ | refine LeO.ite ?_ ?_ | refine LeO.bind ?_ (fun _ => ?_)
set_option maxHeartbeats 8000000 in
set_option maxRecDepth 100000 in
theorem cmp_Or_int.calls (k : Nat) (A0 : Option Addr) (c0 : Nat) (l0 : List Int) (r : Int) (w : World) (hr0 : Kd.C (Kd.int .i64) w A0 l0.length l0) (hc0 : l0.length ≤ c0) (h : cmp_Or_int.f k l0 = some r) :
  Calls Try.prog 36 #[.slice A0 l0.length c0] w fun e w' => e = .returned (.int .i64 r) ∧ Drawn0 w w' := by
 have HR0 := Aside0.mk hr0; have HC0 := Aside0.mk hc0; clear hr0 hc0
 have H : (cmp_Or_int.l0 k 0 l0 (l0.length : Int) 0) = some r := h
 clear h
 have H' := Aside0.mk H
 clear H
 go_enter Try.func36, Try.ntmps36
 go_wp2
 go_loopg [8] k (fun kq v8 w' => ∃ (x8_1 : Int), v8 = .int .i64 x8_1 ∧ Aside0 (cmp_Or_int.l0 kq 0 l0 (l0.length : Int) x8_1 = some r) ∧ Aside0 (kq ≤ k) ∧ Drawn0 w w')
 case atStart => exact ⟨(0), rs_, H', ⟨Nat.le_refl _⟩, by repeat (first | exact Drawn0.refl _ | apply Drawn0.step)⟩
 case round =>
  clear H'
  obtain ⟨x8_1, rfl, HA, HK1, ⟨m1, rfl⟩⟩ := hrel
  cases gk with
  | zero => exact absurd HA.out (by simp [cmp_Or_int.l0])
  | succ k1 =>
   have H := HA.out; clear HA
   simp only [cmp_Or_int.l0] at H
   by_cases c2 : x8_1 < (l0.length : Int)
   ·rw [if_pos c2] at H
    have c2b0 : decide (x8_1 < (l0.length : Int)) = true := decide_eq_true c2
    clear c2
    by_cases c3 : 0 ≤ x8_1
    ·rw [if_pos c3] at H
     have c3b0 : decide (0 ≤ x8_1) = true := decide_eq_true c3
     clear c3
     by_cases c4 : x8_1 < (l0.length : Int)
     ·rw [if_pos c4] at H
      have c4b0 : decide (x8_1 < (l0.length : Int)) = true := decide_eq_true c4
      clear c4
      by_cases c5 : (rd l0 x8_1) = 0
      ·rw [if_pos c5] at H
       have c5b0 : ((rd l0 x8_1) == 0) = true := beq_iff_eq.mpr c5
       have c5b1 : ((rd l0 x8_1) != 0) = false := bne_eq_false_iff_eq.mpr c5
       clear c5
       have H' := Aside0.mk H
       clear H
       have p101 : 0 ≤ (x8_1 : Int) := of_decide_eq_true as_
       have q101 : x8_1 < (l0.length : Int) := of_decide_eq_true as_
       obtain ⟨ad101, e101, hx101_0⟩ := Kd.at_int HR0.out x8_1 p101 q101
       cases e101; replace p101 := eq_true p101; replace q101 := eq_true q101; go_wp2
       go_roundg k1
       case measure => have := HK1.out; omega
       case rel => exact ⟨(wrap64 (x8_1 + 1)), rs_, H', ⟨by have := HK1.out; omega⟩, by repeat (first | exact Drawn0.refl _ | apply Drawn0.step)⟩
      ·rw [if_neg c5] at H
       have c5b0 : ((rd l0 x8_1) == 0) = false := beq_eq_false_iff_ne.mpr c5
       have c5b1 : ((rd l0 x8_1) != 0) = true := bne_iff_ne.mpr c5
       obtain rfl := Option.some.inj H
       have p101 : 0 ≤ (x8_1 : Int) := of_decide_eq_true as_
       have q101 : x8_1 < (l0.length : Int) := of_decide_eq_true as_
       obtain ⟨ad101, e101, hx101_0⟩ := Kd.at_int HR0.out x8_1 p101 q101
       cases e101; replace p101 := eq_true p101; replace q101 := eq_true q101; go_wp2; go_ret
       exact ⟨by first | rfl | (simp; done) | (simp [*]; done), by repeat (first | exact Drawn0.refl _ | apply Drawn0.step)⟩
     ·rw [if_neg c4] at H
      exact absurd H (by simp)
    ·rw [if_neg c3] at H
     exact absurd H (by simp)
   ·rw [if_neg c2] at H
    have c2b0 : decide (x8_1 < (l0.length : Int)) = false := decide_eq_false c2
    clear c2
    obtain rfl := Option.some.inj H
    go_wp2; go_ret
    exact ⟨by first | rfl | (simp; done) | (simp [*]; done), by repeat (first | exact Drawn0.refl _ | apply Drawn0.step)⟩
/-! ### cmp_isNaN_int: function 46 -/
def cmp_isNaN_int.f (a0 : Int) : Option (Bool) := some (a0 != a0)
set_option maxHeartbeats 8000000 in
set_option maxRecDepth 100000 in
theorem cmp_isNaN_int.calls (a0 : Int) (r : Bool) (w : World) (h : cmp_isNaN_int.f a0 = some r) :
  Calls Try.prog 46 #[.int .i64 a0] w fun e w' => e = .returned (.bool r) ∧ Drawn0 w w' := by
 have H : (some (a0 != a0)) = some r := h
 clear h
 obtain rfl := Option.some.inj H
 go_enter Try.func46, Try.ntmps46
 go_wp2; go_ret
 exact ⟨by first | rfl | (simp; done) | (simp [*]; done), by repeat (first | exact Drawn0.refl _ | apply Drawn0.step)⟩
/-! ### cmp_Compare_int: function 38 -/
def cmp_Compare_int.f (a0 : Int) (a1 : Int) : Option (Int) := (cmp_isNaN_int.f a0).bind fun t102 => ((cmp_isNaN_int.f a1).bind fun t103 => (if t102 = true then (if t103 = true then (some 0) else (some (-1))) else (if t103 = true then (some 1) else (if a0 < a1 then (some (-1)) else (if a0 > a1 then (some 1) else (some 0))))))
set_option maxHeartbeats 8000000 in
set_option maxRecDepth 100000 in
theorem cmp_Compare_int.calls (a0 : Int) (a1 : Int) (r : Int) (w : World) (h : cmp_Compare_int.f a0 a1 = some r) :
  Calls Try.prog 38 #[.int .i64 a0, .int .i64 a1] w fun e w' => e = .returned (.int .i64 r) ∧ Drawn0 w w' := by
 have H : ((cmp_isNaN_int.f a0).bind fun t102 => ((cmp_isNaN_int.f a1).bind fun t103 => (if t102 = true then (if t103 = true then (some 0) else (some (-1))) else (if t103 = true then (some 1) else (if a0 < a1 then (some (-1)) else (if a0 > a1 then (some 1) else (some 0))))))) = some r := h
 clear h
 replace H := Option.bind_eq_some_iff.mp H
 obtain ⟨t102, A30, H⟩ := H
 replace H : ((cmp_isNaN_int.f a1).bind fun t103 => (if t102 = true then (if t103 = true then (some 0) else (some (-1))) else (if t103 = true then (some 1) else (if a0 < a1 then (some (-1)) else (if a0 > a1 then (some 1) else (some 0)))))) = some r := H
 have A3 := Aside0.mk A30; clear A30
 replace H := Option.bind_eq_some_iff.mp H
 obtain ⟨t103, A40, H⟩ := H
 replace H : (if t102 = true then (if t103 = true then (some 0) else (some (-1))) else (if t103 = true then (some 1) else (if a0 < a1 then (some (-1)) else (if a0 > a1 then (some 1) else (some 0))))) = some r := H
 have A4 := Aside0.mk A40; clear A40
 by_cases c5 : t102 = true
 ·subst c5
  have H1 : (if t103 = true then (some 0) else (some (-1))) = some r := by rw [if_pos rfl] at H; exact H
  clear H; have H := H1; clear H1
  by_cases c6 : t103 = true
  ·subst c6
   have H1 : (some 0) = some r := by rw [if_pos rfl] at H; exact H
   clear H; have H := H1; clear H1
   obtain rfl := Option.some.inj H
   go_enter Try.func38, Try.ntmps38
   go_wp2_with (first | ((with_reducible refine gate_callee (f := 46) rfl ?_); refine goesL_ (some 8) rfl rfl Try.func46 (by kernel_rfl) rfl #[.int .i64 a0] rfl mp_ ?_; (with_reducible refine (cmp_isNaN_int.calls a0 true _ A3.out).mono ?_); rintro e w' ⟨rfl, ⟨nd, rfl⟩⟩; refine ⟨_, rfl, ?_⟩) | ((with_reducible refine gate_callee (f := 46) rfl ?_); refine goesL_ (some 10) rfl rfl Try.func46 (by kernel_rfl) rfl #[.int .i64 a1] rfl mp_ ?_; (with_reducible refine (cmp_isNaN_int.calls a1 true _ A4.out).mono ?_); rintro e w' ⟨rfl, ⟨nd, rfl⟩⟩; refine ⟨_, rfl, ?_⟩))
   go_ret
   exact ⟨by first | rfl | (simp; done) | (simp [*]; done), by repeat (first | exact Drawn0.refl _ | apply Drawn0.step)⟩
  ·replace c6 := Bool.eq_false_iff.mpr c6
   subst c6
   have H1 : (some (-1)) = some r := by rw [if_neg (show ¬ (false = true) by decide)] at H; exact H
   clear H; have H := H1; clear H1
   obtain rfl := Option.some.inj H
   go_enter Try.func38, Try.ntmps38
   go_wp2_with (first | ((with_reducible refine gate_callee (f := 46) rfl ?_); refine goesL_ (some 8) rfl rfl Try.func46 (by kernel_rfl) rfl #[.int .i64 a0] rfl mp_ ?_; (with_reducible refine (cmp_isNaN_int.calls a0 true _ A3.out).mono ?_); rintro e w' ⟨rfl, ⟨nd, rfl⟩⟩; refine ⟨_, rfl, ?_⟩) | ((with_reducible refine gate_callee (f := 46) rfl ?_); refine goesL_ (some 10) rfl rfl Try.func46 (by kernel_rfl) rfl #[.int .i64 a1] rfl mp_ ?_; (with_reducible refine (cmp_isNaN_int.calls a1 false _ A4.out).mono ?_); rintro e w' ⟨rfl, ⟨nd, rfl⟩⟩; refine ⟨_, rfl, ?_⟩))
   go_ret
   exact ⟨by first | rfl | (simp; done) | (simp [*]; done), by repeat (first | exact Drawn0.refl _ | apply Drawn0.step)⟩
 ·replace c5 := Bool.eq_false_iff.mpr c5
  subst c5
  have H1 : (if t103 = true then (some 1) else (if a0 < a1 then (some (-1)) else (if a0 > a1 then (some 1) else (some 0)))) = some r := by rw [if_neg (show ¬ (false = true) by decide)] at H; exact H
  clear H; have H := H1; clear H1
  by_cases c7 : t103 = true
  ·subst c7
   have H1 : (some 1) = some r := by rw [if_pos rfl] at H; exact H
   clear H; have H := H1; clear H1
   obtain rfl := Option.some.inj H
   go_enter Try.func38, Try.ntmps38
   go_wp2_with (first | ((with_reducible refine gate_callee (f := 46) rfl ?_); refine goesL_ (some 8) rfl rfl Try.func46 (by kernel_rfl) rfl #[.int .i64 a0] rfl mp_ ?_; (with_reducible refine (cmp_isNaN_int.calls a0 false _ A3.out).mono ?_); rintro e w' ⟨rfl, ⟨nd, rfl⟩⟩; refine ⟨_, rfl, ?_⟩) | ((with_reducible refine gate_callee (f := 46) rfl ?_); refine goesL_ (some 10) rfl rfl Try.func46 (by kernel_rfl) rfl #[.int .i64 a1] rfl mp_ ?_; (with_reducible refine (cmp_isNaN_int.calls a1 true _ A4.out).mono ?_); rintro e w' ⟨rfl, ⟨nd, rfl⟩⟩; refine ⟨_, rfl, ?_⟩))
   go_ret
   exact ⟨by first | rfl | (simp; done) | (simp [*]; done), by repeat (first | exact Drawn0.refl _ | apply Drawn0.step)⟩
  ·replace c7 := Bool.eq_false_iff.mpr c7
   subst c7
   have H1 : (if a0 < a1 then (some (-1)) else (if a0 > a1 then (some 1) else (some 0))) = some r := by rw [if_neg (show ¬ (false = true) by decide)] at H; exact H
   clear H; have H := H1; clear H1
   by_cases c8 : a0 < a1
   ·rw [if_pos c8] at H
    have c8b0 : decide (a0 < a1) = true := decide_eq_true c8
    clear c8
    obtain rfl := Option.some.inj H
    go_enter Try.func38, Try.ntmps38
    go_wp2_with (first | ((with_reducible refine gate_callee (f := 46) rfl ?_); refine goesL_ (some 8) rfl rfl Try.func46 (by kernel_rfl) rfl #[.int .i64 a0] rfl mp_ ?_; (with_reducible refine (cmp_isNaN_int.calls a0 false _ A3.out).mono ?_); rintro e w' ⟨rfl, ⟨nd, rfl⟩⟩; refine ⟨_, rfl, ?_⟩) | ((with_reducible refine gate_callee (f := 46) rfl ?_); refine goesL_ (some 10) rfl rfl Try.func46 (by kernel_rfl) rfl #[.int .i64 a1] rfl mp_ ?_; (with_reducible refine (cmp_isNaN_int.calls a1 false _ A4.out).mono ?_); rintro e w' ⟨rfl, ⟨nd, rfl⟩⟩; refine ⟨_, rfl, ?_⟩))
    go_ret
    exact ⟨by first | rfl | (simp; done) | (simp [*]; done), by repeat (first | exact Drawn0.refl _ | apply Drawn0.step)⟩
   ·rw [if_neg c8] at H
    have c8b0 : decide (a0 < a1) = false := decide_eq_false c8
    clear c8
    by_cases c9 : a0 > a1
    ·rw [if_pos c9] at H
     have c9b0 : decide (a1 < a0) = true := decide_eq_true c9
     clear c9
     obtain rfl := Option.some.inj H
     go_enter Try.func38, Try.ntmps38
     go_wp2_with (first | ((with_reducible refine gate_callee (f := 46) rfl ?_); refine goesL_ (some 8) rfl rfl Try.func46 (by kernel_rfl) rfl #[.int .i64 a0] rfl mp_ ?_; (with_reducible refine (cmp_isNaN_int.calls a0 false _ A3.out).mono ?_); rintro e w' ⟨rfl, ⟨nd, rfl⟩⟩; refine ⟨_, rfl, ?_⟩) | ((with_reducible refine gate_callee (f := 46) rfl ?_); refine goesL_ (some 10) rfl rfl Try.func46 (by kernel_rfl) rfl #[.int .i64 a1] rfl mp_ ?_; (with_reducible refine (cmp_isNaN_int.calls a1 false _ A4.out).mono ?_); rintro e w' ⟨rfl, ⟨nd, rfl⟩⟩; refine ⟨_, rfl, ?_⟩))
     go_ret
     exact ⟨by first | rfl | (simp; done) | (simp [*]; done), by repeat (first | exact Drawn0.refl _ | apply Drawn0.step)⟩
    ·rw [if_neg c9] at H
     have c9b0 : decide (a1 < a0) = false := decide_eq_false c9
     clear c9
     obtain rfl := Option.some.inj H
     go_enter Try.func38, Try.ntmps38
     go_wp2_with (first | ((with_reducible refine gate_callee (f := 46) rfl ?_); refine goesL_ (some 8) rfl rfl Try.func46 (by kernel_rfl) rfl #[.int .i64 a0] rfl mp_ ?_; (with_reducible refine (cmp_isNaN_int.calls a0 false _ A3.out).mono ?_); rintro e w' ⟨rfl, ⟨nd, rfl⟩⟩; refine ⟨_, rfl, ?_⟩) | ((with_reducible refine gate_callee (f := 46) rfl ?_); refine goesL_ (some 10) rfl rfl Try.func46 (by kernel_rfl) rfl #[.int .i64 a1] rfl mp_ ?_; (with_reducible refine (cmp_isNaN_int.calls a1 false _ A4.out).mono ?_); rintro e w' ⟨rfl, ⟨nd, rfl⟩⟩; refine ⟨_, rfl, ?_⟩))
     go_ret
     exact ⟨by first | rfl | (simp; done) | (simp [*]; done), by repeat (first | exact Drawn0.refl _ | apply Drawn0.step)⟩

end Go.Proofs.Ytdckeflggcefbaa.Y
namespace Go.Proofs
open Go.Shelf
def Ytdckeflggcefbaa.Y.lays106_ren : Go.Shelf.Ren := ⟨fun | 106 => 37 | 213 => 45 | 265 => 49 | n => n, fun | 9 => 9 | 3 => 3 | n => n, fun | n => n⟩
theorem Ytdckeflggcefbaa.Y.lays106 : Go.Proofs.Lays.n106 Try.prog Ytdckeflggcefbaa.Y.lays106_ren := {
  mixed := by kernel_rfl
  f106 := Try.func37.trans (congrArg some (by kernel_rfl))
  f213 := Try.func45.trans (congrArg some (by kernel_rfl))
  f265 := Try.func49.trans (congrArg some (by kernel_rfl))
  t3 := Try.underlying3
  a3 := Try.isAgg3
  z3 := Try.sizeOf3
  v3 := Try.zeroValue3
  t9 := Try.underlying9
  a9 := Try.isAgg9
  z9 := Try.sizeOf9
  v9 := Try.zeroValue9 }
end Go.Proofs
namespace Go.Proofs.Ytdckeflggcefbaa.Y
open Go.RowKit Go.Proofs.YtdckeflggcefbaaW.PrintWords Go.Proofs.YtdckeflggcefbaaW.PrintLast Go.Proofs.YtdckeflggcefbaaW.PrintMore
set_option linter.unusedVariables false
def strings_Compare.f (a0 : ByteArray) (a1 : ByteArray) : Option Int := some (Lib.compareBytes a0.data.toList a1.data.toList)
theorem strings_Compare.calls (a0 : ByteArray) (a1 : ByteArray) (r : Int) (w : World) (h : strings_Compare.f a0 a1 = some r) :
    Calls Try.prog 37 #[.string a0, .string a1] w fun e w' => e = .returned (.int .i64 r) ∧ Drawn0 w w' := by
  obtain rfl := Option.some.inj h
  exact (Any.strings_Compare lays106 a0 a1 w).mono fun e w' ⟨he, hw⟩ => ⟨he, by subst hw; exact Drawn0.refl _⟩
end Go.Proofs.Ytdckeflggcefbaa.Y
namespace Go.Proofs.Ytdckeflggcefbaa.Y
open Go.RowKit Go.Proofs.YtdckeflggcefbaaW.PrintWords Go.Proofs.YtdckeflggcefbaaW.PrintLast Go.Proofs.YtdckeflggcefbaaW.PrintMore
attribute [local go_sem] max2_int min2_int max_two min_two max_three min_three max_four min_four
set_option linter.unusedVariables false
set_option linter.unusedSimpArgs false

/-! ### fact_Cmp: function 23 -/
def fact_Cmp.f (k : Nat) (a0_0 : ByteArray) (a0_1 : ByteArray) (a0_2 : ByteArray) (a0_3 : ByteArray) (a0_4 : Int) (a1_0 : ByteArray) (a1_1 : ByteArray) (a1_2 : ByteArray) (a1_3 : ByteArray) (a1_4 : Int) : Option (Int) := (strings_Compare.f a0_0 a1_0).bind fun t106 => ((strings_Compare.f a0_1 a1_1).bind fun t107 => ((strings_Compare.f a0_2 a1_2).bind fun t108 => ((strings_Compare.f a0_3 a1_3).bind fun t109 => ((cmp_Compare_int.f a0_4 a1_4).bind fun t110 => ((cmp_Or_int.f k (([t106, t107, t108, t109, t110] : List Int))).bind fun t114 => (some t114))))))
theorem fact_Cmp.mono : ∀ a0 a1 a2 a3 a4 a5 a6 a7 a8 a9 k, LeO (fact_Cmp.f k a0 a1 a2 a3 a4 a5 a6 a7 a8 a9) (fact_Cmp.f (k + 1) a0 a1 a2 a3 a4 a5 a6 a7 a8 a9) := by
 intro a0 a1 a2 a3 a4 a5 a6 a7 a8 a9 k
 unfold fact_Cmp.f
 with_reducible repeat' first | apply cmp_Or_int.mono | refine LeO.refl _ | refine LeO.none _ | refine LeO.ite ?_ ?_ | refine LeO.bind ?_ (fun _ => ?_)
def fact_Cmp.T1 : Bool × List (List Nat × List Nat) := (true, [([], []), ([0], [0]), ([], []), ([2], [2]), ([1, 3], [1, 3]), ([], []), ([5], [5]), ([], []), ([7], [7]), ([6, 8, 4], [6, 8]), ([], []), ([10], [10]), ([], []), ([12], [12]), ([11, 13, 9], [11, 13]), ([], []), ([15], [15]), ([], []), ([17], [17]), ([16, 18, 14], [16, 18]), ([], []), ([20], [20]), ([], []), ([22], [22]), ([21, 23, 19], [21, 23]), ([4, 9, 14, 19, 24], [4, 9, 14, 19, 24]), ([25, 24], [25]), ([26, 26, 0, 1, 2, 3, 4, 5, 6, 7, 8, 9, 10, 11, 12, 13, 14, 15, 16, 17, 18, 19, 20, 21, 22, 23, 24, 25, 26], [26])])
def fact_Cmp.B1 : List Nat := [0, 1, 0, 4, 15, 0, 32, 0, 128, 511, 0, 1024, 0, 4096, 16383, 0, 32768, 0, 131072, 524287, 0, 1048576, 0, 4194304, 16777215, 33554431, 67108863, 134217727]
theorem fact_Cmp.tab1 : rtab .any (opsOf Try.f23 1) = fact_Cmp.T1 := by kernel_rfl
theorem fact_Cmp.bits1 : waitsOk fact_Cmp.T1.2 fact_Cmp.B1 = true := by kernel_rfl
set_option maxHeartbeats 8000000 in
set_option maxRecDepth 100000 in
theorem fact_Cmp.calls (k : Nat) (a0_0 : ByteArray) (a0_1 : ByteArray) (a0_2 : ByteArray) (a0_3 : ByteArray) (a0_4 : Int) (a1_0 : ByteArray) (a1_1 : ByteArray) (a1_2 : ByteArray) (a1_3 : ByteArray) (a1_4 : Int) (r : Int) (w : World) (h : fact_Cmp.f k a0_0 a0_1 a0_2 a0_3 a0_4 a1_0 a1_1 a1_2 a1_3 a1_4 = some r) :
  Calls Try.prog 23 #[.agg #[.string a0_0, .string a0_1, .string a0_2, .string a0_3, .int .i64 a0_4], .agg #[.string a1_0, .string a1_1, .string a1_2, .string a1_3, .int .i64 a1_4]] w fun e w' => e = .returned (.int .i64 r) ∧ Below w.heap.size w w' := by
 have hu44 := Try.underlying44
 have HB := Aside0.mk (Below.refl w.heap.size w)
 have H : ((strings_Compare.f a0_0 a1_0).bind fun t106 => ((strings_Compare.f a0_1 a1_1).bind fun t107 => ((strings_Compare.f a0_2 a1_2).bind fun t108 => ((strings_Compare.f a0_3 a1_3).bind fun t109 => ((cmp_Compare_int.f a0_4 a1_4).bind fun t110 => ((cmp_Or_int.f k (([t106, t107, t108, t109, t110] : List Int))).bind fun t114 => (some t114))))))) = some r := h
 clear h
 replace H := Option.bind_eq_some_iff.mp H
 obtain ⟨t106, A30, H⟩ := H
 replace H : ((strings_Compare.f a0_1 a1_1).bind fun t107 => ((strings_Compare.f a0_2 a1_2).bind fun t108 => ((strings_Compare.f a0_3 a1_3).bind fun t109 => ((cmp_Compare_int.f a0_4 a1_4).bind fun t110 => ((cmp_Or_int.f k (([t106, t107, t108, t109, t110] : List Int))).bind fun t114 => (some t114)))))) = some r := H
 have A3 := Aside0.mk A30; clear A30
 replace H := Option.bind_eq_some_iff.mp H
 obtain ⟨t107, A40, H⟩ := H
 replace H : ((strings_Compare.f a0_2 a1_2).bind fun t108 => ((strings_Compare.f a0_3 a1_3).bind fun t109 => ((cmp_Compare_int.f a0_4 a1_4).bind fun t110 => ((cmp_Or_int.f k (([t106, t107, t108, t109, t110] : List Int))).bind fun t114 => (some t114))))) = some r := H
 have A4 := Aside0.mk A40; clear A40
 replace H := Option.bind_eq_some_iff.mp H
 obtain ⟨t108, A50, H⟩ := H
 replace H : ((strings_Compare.f a0_3 a1_3).bind fun t109 => ((cmp_Compare_int.f a0_4 a1_4).bind fun t110 => ((cmp_Or_int.f k (([t106, t107, t108, t109, t110] : List Int))).bind fun t114 => (some t114)))) = some r := H
 have A5 := Aside0.mk A50; clear A50
 replace H := Option.bind_eq_some_iff.mp H
 obtain ⟨t109, A60, H⟩ := H
 replace H : ((cmp_Compare_int.f a0_4 a1_4).bind fun t110 => ((cmp_Or_int.f k (([t106, t107, t108, t109, t110] : List Int))).bind fun t114 => (some t114))) = some r := H
 have A6 := Aside0.mk A60; clear A60
 replace H := Option.bind_eq_some_iff.mp H
 obtain ⟨t110, A70, H⟩ := H
 replace H : ((cmp_Or_int.f k (([t106, t107, t108, t109, t110] : List Int))).bind fun t114 => (some t114)) = some r := H
 have A7 := Aside0.mk A70; clear A70
 obtain ⟨y111, hy111⟩ : ∃ y_ : List Int, y_ = (([t106, t107, t108, t109, t110] : List Int)) := ⟨_, rfl⟩
 replace H : ((cmp_Or_int.f k y111).bind fun t114 => (some t114)) = some r := rh hy111 H
 have Ny111 := Aside0.mk hy111; clear hy111
 replace H := Option.bind_eq_some_iff.mp H
 obtain ⟨t114, A80, H⟩ := H
 replace H : (some t114) = some r := H
 have A8 := Aside0.mk A80; clear A80
 obtain rfl := Option.some.inj H
 go_enter Try.func23, Try.ntmps23
 try go_wp2_with (first | ((with_reducible refine gate_dst (N := 2) rfl ?_); refine box_event ?hg (N := 2) ?hd (cs := #[.string a0_0, .string a0_1, .string a0_2, .string a0_3, .int .i64 a0_4]) (t := 44) ?hr ?_; (case hd => rfl); (case hg => rfl); (case hr => first | (go_simp; done) | (go_simp; rfl)); intro gb104 hg w9 hbox hb; have n0_ := Aside0.mk (below_step bw hb); have n1_ := Aside0.mk (hbox); have n2_ := Aside0.mk ((by rw [hg]; exact (below_size bw) : w.heap.size ≤ gb104)); have n3_ := Aside0.mk ((by rw [hg]; exact (below_size bw) : w.heap.size ≤ gb104)); clear HB; have HB := n0_; have BK104 := n1_; have GW104 := n2_; have GE104 := n3_; clear n0_ n1_ n2_ n3_; clear hb hbox hg) | ((with_reducible refine gate_dst (N := 3) rfl ?_); refine box_event ?hg (N := 3) ?hd (cs := #[.string a1_0, .string a1_1, .string a1_2, .string a1_3, .int .i64 a1_4]) (t := 44) ?hr ?_; (case hd => rfl); (case hg => rfl); (case hr => first | (go_simp; done) | (go_simp; rfl)); intro gb105 hg w10 hbox hb; have n0_ := Aside0.mk (blk_below (g := gb104) (o := .cells #[.string a0_0, .string a0_1, .string a0_2, .string a0_3, .int .i64 a0_4] 44 (0, 0)) (by (with_reducible repeat (first | refine blk_drewN ?_ _ | refine blk_drew ?_ | refine blk_alloc ?_ _)); exact BK104.out) hb); have n1_ := Aside0.mk (below_step bx hb); have n2_ := Aside0.mk (hbox); have n3_ := Aside0.mk ((by rw [hg]; exact (below_size bx) : w.heap.size ≤ gb105)); have n4_ := Aside0.mk ((by rw [hg]; exact (below_size bx) : w.heap.size ≤ gb105)); have n5_ := Aside0.mk ((by rw [hg]; exact Nat.ne_of_lt (blk_lt (g := gb104) (o := .cells #[.string a0_0, .string a0_1, .string a0_2, .string a0_3, .int .i64 a0_4] 44 (0, 0)) (by (with_reducible repeat (first | refine blk_drewN ?_ _ | refine blk_drew ?_ | refine blk_alloc ?_ _)); exact BK104.out)) : gb104 ≠ gb105)); have n6_ := Aside0.mk ((by rw [hg]; exact Nat.ne_of_gt (blk_lt (g := gb104) (o := .cells #[.string a0_0, .string a0_1, .string a0_2, .string a0_3, .int .i64 a0_4] 44 (0, 0)) (by (with_reducible repeat (first | refine blk_drewN ?_ _ | refine blk_drew ?_ | refine blk_alloc ?_ _)); exact BK104.out)) : gb105 ≠ gb104)); clear BK104; clear HB; have BK104 := n0_; have HB := n1_; have BK105 := n2_; have GW105 := n3_; have GE105 := n4_; have NB104_105 := n5_; have NB105_104 := n6_; clear n0_ n1_ n2_ n3_ n4_ n5_ n6_; clear hb hbox hg))
 have n0_ := Aside0.mk (blk_drew BK104.out)
 have n1_ := Aside0.mk (blk_drew BK105.out)
 have n2_ := Aside0.mk (below_drew1 HB.out)
 clear BK104 BK105 HB; have BK104 := n0_; have BK105 := n1_; have HB := n2_; clear n0_ n1_ n2_
 refine start_ (n := 28) (S := fun w' => w'.cell? ⟨gb104, 0, none⟩ = some (.string a0_0) ∧ w'.cell? ⟨gb104, 1, none⟩ = some (.string a0_1) ∧ w'.cell? ⟨gb104, 2, none⟩ = some (.string a0_2) ∧ w'.cell? ⟨gb104, 3, none⟩ = some (.string a0_3) ∧ w'.cell? ⟨gb104, 4, none⟩ = some (.int .i64 a0_4) ∧ w'.cell? ⟨gb105, 0, none⟩ = some (.string a1_0) ∧ w'.cell? ⟨gb105, 1, none⟩ = some (.string a1_1) ∧ w'.cell? ⟨gb105, 2, none⟩ = some (.string a1_2) ∧ w'.cell? ⟨gb105, 3, none⟩ = some (.string a1_3) ∧ w'.cell? ⟨gb105, 4, none⟩ = some (.int .i64 a1_4)) (ds := []) (fl 28 0) (by kernel_rfl) rfl rfl ⟨(blk_cell BK104.out 0).trans rfl, (blk_cell BK104.out 1).trans rfl, (blk_cell BK104.out 2).trans rfl, (blk_cell BK104.out 3).trans rfl, (blk_cell BK104.out 4).trans rfl, (blk_cell BK105.out 0).trans rfl, (blk_cell BK105.out 1).trans rfl, (blk_cell BK105.out 2).trans rfl, (blk_cell BK105.out 3).trans rfl, (blk_cell BK105.out 4).trans rfl⟩ (fun hHeld => ?_); refine with_tabW fact_Cmp.tab1 fact_Cmp.bits1 (fun HT_ HW_ => ?_)
 generalize w10.drew = w11 at BK104 BK105 HB hHeld ⊢
 refine pu 0 (some 5) (fl 28 1) HT_ ?_
 refine pu 2 (some 7) (fl 28 5) HT_ ?_
 refine pu 5 (some 10) (fl 28 37) HT_ ?_
 refine pu 7 (some 12) (fl 28 165) HT_ ?_
 refine pu 10 (some 15) (fl 28 1189) HT_ ?_
 refine pu 12 (some 17) (fl 28 5285) HT_ ?_
 refine pu 15 (some 20) (fl 28 38053) HT_ ?_
 refine pu 17 (some 22) (fl 28 169125) HT_ ?_
 refine pu 20 (some 25) (fl 28 1217701) HT_ ?_
 refine pu 22 (some 27) (fl 28 5412005) HT_ ?_
 refine tu 1 (some 6) (fl 28 5412007) HT_ HW_ hHeld ?_
 refine tu 3 (some 8) (fl 28 5412015) HT_ HW_ hHeld ?_
 refine tu 6 (some 11) (fl 28 5412079) HT_ HW_ hHeld ?_
 refine tu 8 (some 13) (fl 28 5412335) HT_ HW_ hHeld ?_
 refine tu 11 (some 16) (fl 28 5414383) HT_ HW_ hHeld ?_
 refine tu 13 (some 18) (fl 28 5422575) HT_ HW_ hHeld ?_
 refine tu 16 (some 21) (fl 28 5488111) HT_ HW_ hHeld ?_
 refine tu 18 (some 23) (fl 28 5750255) HT_ HW_ hHeld ?_
 refine tu 21 (some 26) (fl 28 7847407) HT_ HW_ hHeld ?_
 refine tu 23 (some 28) (fl 28 16236015) HT_ HW_ hHeld ?_
 refine one_ (i := 4) (N := some 9) (fl 28 16236031) rfl rfl (one_of HT_.out (by kernel_rfl)) (by decide) (fun K hK => ?_)
 refine goes_ Try.func37 (by kernel_rfl) rfl #[.string a0_0, .string a1_0] (by rfl) rfl rfl mp_ ?_
 with_reducible refine (strings_Compare.calls a0_0 a1_0 t106 _ A3.out).mono ?_
 rintro e w' ⟨rfl, ⟨nd, rfl⟩⟩
 refine ⟨_, rfl, ?_⟩
 refine hK.out _ _ ⟨(blk_cell BK104.out 0).trans rfl, (blk_cell BK104.out 1).trans rfl, (blk_cell BK104.out 2).trans rfl, (blk_cell BK104.out 3).trans rfl, (blk_cell BK104.out 4).trans rfl, (blk_cell BK105.out 0).trans rfl, (blk_cell BK105.out 1).trans rfl, (blk_cell BK105.out 2).trans rfl, (blk_cell BK105.out 3).trans rfl, (blk_cell BK105.out 4).trans rfl⟩ (fun hHeld => ?_)
 clear hK K
 refine norm_ (a' := ?_) ?_ ?_
 rotate_left
 ·show Act.put _ (some 9) _ = _
  simp only [Act.put, List.setIfInBounds_toArray, List.set_cons_zero, List.set_cons_succ, i64_w, i32_w]
  rfl
 refine one_ (i := 9) (N := some 14) (fl 28 16236543) rfl rfl (one_of HT_.out (by kernel_rfl)) (by decide) (fun K hK => ?_)
 refine goes_ Try.func37 (by kernel_rfl) rfl #[.string a0_1, .string a1_1] (by rfl) rfl rfl mp_ ?_
 with_reducible refine (strings_Compare.calls a0_1 a1_1 t107 _ A4.out).mono ?_
 rintro e w' ⟨rfl, ⟨nd, rfl⟩⟩
 refine ⟨_, rfl, ?_⟩
 refine hK.out _ _ ⟨(blk_cell BK104.out 0).trans rfl, (blk_cell BK104.out 1).trans rfl, (blk_cell BK104.out 2).trans rfl, (blk_cell BK104.out 3).trans rfl, (blk_cell BK104.out 4).trans rfl, (blk_cell BK105.out 0).trans rfl, (blk_cell BK105.out 1).trans rfl, (blk_cell BK105.out 2).trans rfl, (blk_cell BK105.out 3).trans rfl, (blk_cell BK105.out 4).trans rfl⟩ (fun hHeld => ?_)
 clear hK K
 refine norm_ (a' := ?_) ?_ ?_
 rotate_left
 ·show Act.put _ (some 14) _ = _
  simp only [Act.put, List.setIfInBounds_toArray, List.set_cons_zero, List.set_cons_succ, i64_w, i32_w]
  rfl
 refine one_ (i := 14) (N := some 19) (fl 28 16252927) rfl rfl (one_of HT_.out (by kernel_rfl)) (by decide) (fun K hK => ?_)
 refine goes_ Try.func37 (by kernel_rfl) rfl #[.string a0_2, .string a1_2] (by rfl) rfl rfl mp_ ?_
 with_reducible refine (strings_Compare.calls a0_2 a1_2 t108 _ A5.out).mono ?_
 rintro e w' ⟨rfl, ⟨nd, rfl⟩⟩
 refine ⟨_, rfl, ?_⟩
 refine hK.out _ _ ⟨(blk_cell BK104.out 0).trans rfl, (blk_cell BK104.out 1).trans rfl, (blk_cell BK104.out 2).trans rfl, (blk_cell BK104.out 3).trans rfl, (blk_cell BK104.out 4).trans rfl, (blk_cell BK105.out 0).trans rfl, (blk_cell BK105.out 1).trans rfl, (blk_cell BK105.out 2).trans rfl, (blk_cell BK105.out 3).trans rfl, (blk_cell BK105.out 4).trans rfl⟩ (fun hHeld => ?_)
 clear hK K
 refine norm_ (a' := ?_) ?_ ?_
 rotate_left
 ·show Act.put _ (some 19) _ = _
  simp only [Act.put, List.setIfInBounds_toArray, List.set_cons_zero, List.set_cons_succ, i64_w, i32_w]
  rfl
 refine one_ (i := 19) (N := some 24) (fl 28 16777215) rfl rfl (one_of HT_.out (by kernel_rfl)) (by decide) (fun K hK => ?_)
 refine goes_ Try.func37 (by kernel_rfl) rfl #[.string a0_3, .string a1_3] (by rfl) rfl rfl mp_ ?_
 with_reducible refine (strings_Compare.calls a0_3 a1_3 t109 _ A6.out).mono ?_
 rintro e w' ⟨rfl, ⟨nd, rfl⟩⟩
 refine ⟨_, rfl, ?_⟩
 refine hK.out _ _ ⟨(blk_cell BK104.out 0).trans rfl, (blk_cell BK104.out 1).trans rfl, (blk_cell BK104.out 2).trans rfl, (blk_cell BK104.out 3).trans rfl, (blk_cell BK104.out 4).trans rfl, (blk_cell BK105.out 0).trans rfl, (blk_cell BK105.out 1).trans rfl, (blk_cell BK105.out 2).trans rfl, (blk_cell BK105.out 3).trans rfl, (blk_cell BK105.out 4).trans rfl⟩ (fun hHeld => ?_)
 clear hK K
 refine norm_ (a' := ?_) ?_ ?_
 rotate_left
 ·show Act.put _ (some 24) _ = _
  simp only [Act.put, List.setIfInBounds_toArray, List.set_cons_zero, List.set_cons_succ, i64_w, i32_w]
  rfl
 refine one_ (i := 24) (N := some 29) (fl 28 33554431) rfl rfl (one_of HT_.out (by kernel_rfl)) (by decide) (fun K hK => ?_)
 refine goes_ Try.func38 (by kernel_rfl) rfl #[.int .i64 a0_4, .int .i64 a1_4] (by rfl) rfl rfl mp_ ?_
 with_reducible refine (cmp_Compare_int.calls a0_4 a1_4 t110 _ A7.out).mono ?_
 rintro e w' ⟨rfl, ⟨nd, rfl⟩⟩
 refine ⟨_, rfl, ?_⟩
 refine hK.out _ _ ⟨(blk_cell BK104.out 0).trans rfl, (blk_cell BK104.out 1).trans rfl, (blk_cell BK104.out 2).trans rfl, (blk_cell BK104.out 3).trans rfl, (blk_cell BK104.out 4).trans rfl, (blk_cell BK105.out 0).trans rfl, (blk_cell BK105.out 1).trans rfl, (blk_cell BK105.out 2).trans rfl, (blk_cell BK105.out 3).trans rfl, (blk_cell BK105.out 4).trans rfl⟩ (fun hHeld => ?_)
 clear hK K
 refine norm_ (a' := ?_) ?_ ?_
 rotate_left
 ·show Act.put _ (some 29) _ = _
  simp only [Act.put, List.setIfInBounds_toArray, List.set_cons_zero, List.set_cons_succ, i64_w, i32_w]
  rfl
 refine one_ (i := 25) (N := some 30) (fl 28 67108863) rfl rfl (one_of HT_.out (by kernel_rfl)) (by decide) (fun K hK => ?_)
 refine Kd.R_lit_step (Kd.int .i64) _ 3 ?hg (N := 30) ?hd (xs := ([t106, t107, t108, t109, t110] : List Int)) (inner := [.int .i64 t106, .int .i64 t107, .int .i64 t108, .int .i64 t109, .int .i64 t110]) (ok := fun _ => True) (okp := fun _ => True) ?hr ?hp (fun _ hk => hk) trivial (Below.refl _ _) (Nat.le_refl _) (by simp) ?_; (case hd => rfl); (case hg => rfl); (case hr => first | (go_simp; done) | (go_simp; rfl)); (case hp => exact (Reps.one (show Kd.M (Kd.int .i64) _ _ _ t106 [.int .i64 t106] from rfl) (Reps.one (show Kd.M (Kd.int .i64) _ _ _ t107 [.int .i64 t107] from rfl) (Reps.one (show Kd.M (Kd.int .i64) _ _ _ t108 [.int .i64 t108] from rfl) (Reps.one (show Kd.M (Kd.int .i64) _ _ _ t109 [.int .i64 t109] from rfl) (Reps.one (show Kd.M (Kd.int .i64) _ _ _ t110 [.int .i64 t110] from rfl) (Reps.none _ _)))))))
 intro v112 w12 ho13 hb hg_ hnew_
 clear hg_ hnew_
 (first | rw [← Ny111.out] at ho13 | (simp only [Int.reduceToNat] at ho13; rw [← Ny111.out] at ho13))
 have n0_ := Aside0.mk (Kd.R_lower ho13 (below_size bx))
 have n1_ := Aside0.mk (blk_below (g := gb104) (o := .cells #[.string a0_0, .string a0_1, .string a0_2, .string a0_3, .int .i64 a0_4] 44 (0, 0)) (by (with_reducible repeat (first | refine blk_drewN ?_ _ | refine blk_drew ?_ | refine blk_alloc ?_ _)); exact BK104.out) hb)
 have n2_ := Aside0.mk (blk_below (g := gb105) (o := .cells #[.string a1_0, .string a1_1, .string a1_2, .string a1_3, .int .i64 a1_4] 44 (0, 0)) (by (with_reducible repeat (first | refine blk_drewN ?_ _ | refine blk_drew ?_ | refine blk_alloc ?_ _)); exact BK105.out) hb)
 have n3_ := Aside0.mk (below_step bx hb)
 clear BK104 BK105 HB; have HO113 := n0_; have BK104 := n1_; have BK105 := n2_; have HB := n3_; clear n0_ n1_ n2_ n3_ hb ho13
 obtain ⟨Ao14, co14, eo14⟩ := Kd.R_slice HO113.out
 (first | subst eo14 | (injection eo14 with f1_ f2_ f3_; have f4_ := f1_.symm; have f5_ := f3_.symm; clear f1_ f2_ f3_; subst f4_; subst f5_))
 refine hK.out _ _ ⟨(blk_cell BK104.out 0).trans rfl, (blk_cell BK104.out 1).trans rfl, (blk_cell BK104.out 2).trans rfl, (blk_cell BK104.out 3).trans rfl, (blk_cell BK104.out 4).trans rfl, (blk_cell BK105.out 0).trans rfl, (blk_cell BK105.out 1).trans rfl, (blk_cell BK105.out 2).trans rfl, (blk_cell BK105.out 3).trans rfl, (blk_cell BK105.out 4).trans rfl⟩ (fun hHeld => ?_)
 clear hK K
 refine norm_ (a' := ?_) ?_ ?_
 rotate_left
 ·show Act.put _ (some 30) _ = _
  simp only [Act.put, List.setIfInBounds_toArray, List.set_cons_zero, List.set_cons_succ, i64_w, i32_w]
  rfl
 refine one_ (i := 26) (N := some 31) (fl 28 134217727) rfl rfl (one_of HT_.out (by kernel_rfl)) (by decide) (fun K hK => ?_)
 refine goes_ Try.func36 (by kernel_rfl) rfl #[.slice Ao14 y111.length co14] (by rfl) rfl rfl mp_ ?_
 with_reducible refine (cmp_Or_int.calls k _ _ y111 t114 _ ?side1 ?side2 A8.out).mono ?_
 (case side1 => repeat (first | exact (Kd.R_reads' HO113.out).2.2 | (with_reducible refine Kd.C_alloc ?_ _) | (with_reducible refine Kd.C_drewN ?_ _) | (with_reducible refine Kd.C_drew ?_)))
 (case side2 => exact (Kd.R_reads' HO113.out).2.1)
 rintro e w' ⟨rfl, ⟨nd, rfl⟩⟩
 refine ⟨_, rfl, ?_⟩
 refine hK.out _ _ ⟨(blk_cell BK104.out 0).trans rfl, (blk_cell BK104.out 1).trans rfl, (blk_cell BK104.out 2).trans rfl, (blk_cell BK104.out 3).trans rfl, (blk_cell BK104.out 4).trans rfl, (blk_cell BK105.out 0).trans rfl, (blk_cell BK105.out 1).trans rfl, (blk_cell BK105.out 2).trans rfl, (blk_cell BK105.out 3).trans rfl, (blk_cell BK105.out 4).trans rfl⟩ (fun hHeld => ?_)
 clear hK K
 refine norm_ (a' := ?_) ?_ ?_
 rotate_left
 ·show Act.put _ (some 31) _ = _
  simp only [Act.put, List.setIfInBounds_toArray, List.set_cons_zero, List.set_cons_succ, i64_w, i32_w]
  rfl
 refine pu 27 (some 4) (fl 28 268435455) HT_ ?_
 refine done_ (done_of HT_.out (by kernel_rfl)) ?_
 try go_wp2
 go_ret
 exact ⟨re_, bx⟩

end Go.Proofs.Ytdckeflggcefbaa.Y
namespace Go.Proofs.Ytdckeflggcefbaa.Y
open Go.RowKit Go.Proofs.YtdckeflggcefbaaW.PrintWords Go.Proofs.YtdckeflggcefbaaW.PrintLast Go.Proofs.YtdckeflggcefbaaW.PrintMore
set_option linter.unusedVariables false
set_option linter.unusedSimpArgs false
def fact_Grow.f (a1 : Int) : Option (List S55) := if 0 ≤ a1 ∧ a1 < 1759218604441 then some [] else none
set_option maxHeartbeats 8000000 in
set_option maxRecDepth 100000 in
theorem fact_Grow.calls (a1 : Int) (r : List (S55)) (w : World) (h : fact_Grow.f a1 = some r) :
    Calls Try.prog 40 #[.slice none 0 0, .int .i64 a1] w fun e w' => ∃ v0_ : Value, e = .returned (v0_) ∧ Kd.R k55 55 w' w.heap.size (fun _ => True) v0_ r ∧ Below w.heap.size w w' := by
  have H : (if 0 ≤ a1 ∧ a1 < 1759218604441 then some ([] : List S55) else none) = some r := h
  clear h
  by_cases c1 : 0 ≤ a1 ∧ a1 < 1759218604441
  case neg => rw [if_neg c1] at H; exact absurd H (by simp)
  rw [if_pos c1] at H
  obtain rfl := Option.some.inj H
  clear H
  obtain ⟨c1, c2⟩ := c1
  have hn : decide (a1 < 0) = false := decide_eq_false (by omega)
  obtain ⟨i55, hi, hzz⟩ := Option.map_eq_some_iff.1 info55
  have cz : ∀ W : World, (Instr.slice 30 (.slice none 0 0) none (some (.int .i64 0)) none).run Try.prog W = .ok (.slice none 0 0) W := fun W => cut_to 30 55 .i64 Try.underlying30 hi none 0 0 0 (by omega) (by omega) (by omega) W
  by_cases c3 : a1 = 0
  · subst c3
    clear hi hzz c1 c2
    go_enter Try.func40, Try.ntmps40
    go_wp2
    go_ret
    exact ⟨_, rfl, Kd.R_nil _ _ _ _ _, Below.refl _ _⟩
  · have hp : decide (0 < a1) = true := decide_eq_true (by omega)
    have C1 := Aside0.mk c1
    have C2 := Aside0.mk c2
    have HI := Aside0.mk hi
    have c4 : 0 < a1 := by omega
    clear hi hzz c3
    go_enter Try.func40, Try.ntmps40
    go_wp2_with ((with_reducible refine gate_builtin (b := .append) (xs := #[.tmp 20, .tmp 21]) rfl ?_); at_builtin; refine Kd.R_append_zeros k55 (w0 := w) w.heap.size rfl (.tmp 20) (.tmp 21) 30 3 55 (.agg #[(.string ⟨#[]⟩), (.string ⟨#[]⟩), (.string ⟨#[]⟩), (.string ⟨#[]⟩), (.int .i64 0), (.int .i64 0)]) 80 rfl Try.underlying30 Try.underlying3 info55 rfl (by decide) (by omega) (.slice none 0 0) ([] : List S55) z55 (a1 : Int) (fun _ => True) rfl rfl (k55_mkM _ _ _ z55) ?aF ?aO C1.out ?aB ?aS ?aL ?_; (case aB => exact Below.refl _ _); (case aF => exact (fun _ _ => trivial)); (case aO => exact Kd.R_nil _ _ _ _ _); (case aS => exact Nat.le_refl _); (case aL => have := C2.out; have := C1.out; simp; omega); intro v272 w8 ho hb hg hat; obtain ⟨A, c, rfl, hl, _⟩ := Kd.R_reads ho; have HO := Aside0.mk ho; have HB := Aside0.mk hb; have cut := cut_to (P := Try.prog) 30 55 .i64 Try.underlying30 HI.out A (([] : List S55) ++ List.replicate a1.toNat z55).length c 0 (by omega) (by omega) hl; clear ho hb hg hat hl)
    go_ret
    refine ⟨_, rfl, ?_, HB.out⟩
    have := Kd.R_take HO.out (m := 0) (by omega)
    simpa using this
end Go.Proofs.Ytdckeflggcefbaa.Y
namespace Go.Proofs.Ytdckeflggcefbaa.Y
open Go.RowKit Go.Proofs.YtdckeflggcefbaaW.PrintWords Go.Proofs.YtdckeflggcefbaaW.PrintLast Go.Proofs.YtdckeflggcefbaaW.PrintMore
attribute [local go_sem] max2_int min2_int max_two min_two max_three min_three max_four min_four
set_option linter.unusedVariables false
set_option linter.unusedSimpArgs false

/-! ### fact_Fact_25: function 25 -/
mutual
def fact_Fact_25.l0 : Nat → List (List (S55)) → Int → List (List (S55)) → Int → Int → Option ((List (S55)))
 | 0, _, _, _, _, _ => none
 | k + 1, x0, x3, x9, x10, x11 => if x11 < x10 then (if 0 ≤ x11 then (if x11 < (x9.length : Int) then (if (wrap64 (x3 + ((rd_L4 x9 x11).length : Int))) < 0 then (none) else (fact_Fact_25.l0 k x0 (wrap64 (x3 + ((rd_L4 x9 x11).length : Int))) x9 x10 (wrap64 (x11 + 1)))) else (none)) else (none)) else ((fact_Grow.f x3).bind fun t162 => (fact_Fact_25.l1 k t162 x0 (x0.length : Int) 0))
def fact_Fact_25.l1 : Nat → List (S55) → List (List (S55)) → Int → Int → Option ((List (S55)))
 | 0, _, _, _, _ => none
 | k + 1, x6, x25, x26, x27 => if x27 < x26 then (if 0 ≤ x27 then (if x27 < (x25.length : Int) then (if x6.length + (rd_L4 x25 x27).length < 1759218604441 then (fact_Fact_25.l1 k (x6 ++ (rd_L4 x25 x27)) x25 x26 (wrap64 (x27 + 1))) else (none)) else (none)) else (none)) else (some x6)
end
def fact_Fact_25.f (k : Nat) (l0 : List (List (S55))) : Option ((List (S55))) := fact_Fact_25.l0 k l0 0 l0 (l0.length : Int) 0
theorem fact_Fact_25.mono_l : ∀ k, (∀ y0 y1 y2 y3 y4, LeO (fact_Fact_25.l0 k y0 y1 y2 y3 y4) (fact_Fact_25.l0 (k + 1) y0 y1 y2 y3 y4)) ∧ (∀ y0 y1 y2 y3, LeO (fact_Fact_25.l1 k y0 y1 y2 y3) (fact_Fact_25.l1 (k + 1) y0 y1 y2 y3))
 | 0 => ⟨fun _ _ _ _ _ r h => by simp [fact_Fact_25.l0] at h, fun _ _ _ _ r h => by simp [fact_Fact_25.l1] at h⟩
 | k + 1 => by
  obtain ⟨ih0, ih1⟩ := fact_Fact_25.mono_l k
  refine ⟨?_, ?_⟩
  ·intro y0 y1 y2 y3 y4
   unfold fact_Fact_25.l0
   with_reducible repeat' first | apply ih0 | apply ih1 | refine LeO.refl _ | refine LeO.none _ | refine LeO.ite ?_ ?_ | refine LeO.bind ?_ (fun _ => ?_)
  ·intro y0 y1 y2 y3
   unfold fact_Fact_25.l1
   with_reducible repeat' first | apply ih0 | apply ih1 | refine LeO.refl _ | refine LeO.none _ | refine LeO.ite ?_ ?_ | refine LeO.bind ?_ (fun _ => ?_)
theorem fact_Fact_25.mono : ∀ a0 k, LeO (fact_Fact_25.f k a0) (fact_Fact_25.f (k + 1) a0) := by
 intro a0 k
 obtain ⟨ih0, ih1⟩ := fact_Fact_25.mono_l k
 unfold fact_Fact_25.f
 with_reducible repeat' first | apply ih0 | apply ih1 | refine LeO.refl _ | refine LeO.none _ | refine LeO.ite ?_ ?_ | refine LeO.bind ?_ (fun _ => ?_)
set_option maxHeartbeats 8000000 in
set_option maxRecDepth 100000 in
theorem fact_Fact_25.calls (k : Nat) (A0 : Option Addr) (c0 : Nat) (l0 : List (List (S55))) (r : List (S55)) (w : World) (hr0 : Kd.C (Kd.slice 55 k55) w A0 l0.length l0) (hc0 : l0.length ≤ c0) (h : fact_Fact_25.f k l0 = some r) :
  Calls Try.prog 25 #[.slice A0 l0.length c0] w fun e w' => ∃ v0_ : Value, e = .returned (v0_) ∧ Kd.R k55 55 w' w.heap.size (fun _ => True) v0_ r ∧ Below w.heap.size w w' := by
 have HR0 := Aside0.mk hr0; have HC0 := Aside0.mk hc0; clear hr0 hc0
 have HB := Aside0.mk (Below.refl w.heap.size w)
 have H : (fact_Fact_25.l0 k l0 0 l0 (l0.length : Int) 0) = some r := h
 clear h
 have H' := Aside0.mk H
 clear H
 go_enter Try.func25, Try.ntmps25
 go_wp2
 go_loopg [3, 11] k (fun kq v3 v11 w' => ∃ (x3_1 : Int) (x11_1 : Int), v3 = .int .i64 x3_1 ∧ v11 = .int .i64 x11_1 ∧ Aside0 (fact_Fact_25.l0 kq l0 x3_1 l0 (l0.length : Int) x11_1 = some r) ∧ Aside0 (kq ≤ k) ∧ Aside0 (Below w.heap.size w w'))
 case atStart => exact ⟨(0), (0), rs_, rs_, H', ⟨Nat.le_refl _⟩, ⟨bw⟩⟩
 case round =>
  clear H'
  obtain ⟨x3_1, x11_1, rfl, rfl, HA, HK1, HB⟩ := hrel
  cases gk with
  | zero => exact absurd HA.out (by simp [fact_Fact_25.l0])
  | succ k1 =>
   have H := HA.out; clear HA
   simp only [fact_Fact_25.l0] at H
   by_cases c2 : x11_1 < (l0.length : Int)
   ·rw [if_pos c2] at H
    have c2b0 : decide (x11_1 < (l0.length : Int)) = true := decide_eq_true c2
    clear c2
    by_cases c3 : 0 ≤ x11_1
    ·rw [if_pos c3] at H
     have c3b0 : decide (0 ≤ x11_1) = true := decide_eq_true c3
     clear c3
     by_cases c4 : x11_1 < (l0.length : Int)
     ·rw [if_pos c4] at H
      have c4b0 : decide (x11_1 < (l0.length : Int)) = true := decide_eq_true c4
      clear c4
      by_cases c5 : (wrap64 (x3_1 + ((rd_L4 l0 x11_1).length : Int))) < 0
      ·rw [if_pos c5] at H
       exact absurd H (by simp)
      ·rw [if_neg c5] at H
       have c5b0 : decide ((wrap64 (x3_1 + ((rd_L4 l0 x11_1).length : Int))) < 0) = false := decide_eq_false c5
       clear c5
       have H' := Aside0.mk H
       clear H
       have p161 : 0 ≤ (x11_1 : Int) := of_decide_eq_true as_
       have q161 : x11_1 < (l0.length : Int) := of_decide_eq_true as_
       obtain ⟨ad161, A161_0, c161_0, e161, hx161_0, hl161_0, hi161_0⟩ := at_L4 HR0.out x11_1 p161 q161
       cases e161; replace hx161_0 := cb HB hx161_0; have HR161_0 := Aside0.mk hi161_0; have HC161_0 := Aside0.mk hl161_0; clear hi161_0 hl161_0; replace p161 := eq_true p161; replace q161 := eq_true q161; go_wp2
       go_roundg k1
       case measure => have := HK1.out; omega
       case rel => exact ⟨(wrap64 (x3_1 + ((rd_L4 l0 x11_1).length : Int))), (wrap64 (x11_1 + 1)), rs_, rs_, H', ⟨by have := HK1.out; omega⟩, ⟨bw⟩⟩
     ·rw [if_neg c4] at H
      exact absurd H (by simp)
    ·rw [if_neg c3] at H
     exact absurd H (by simp)
   ·rw [if_neg c2] at H
    have c2b0 : decide (x11_1 < (l0.length : Int)) = false := decide_eq_false c2
    clear c2
    replace H := Option.bind_eq_some_iff.mp H
    obtain ⟨t162, A60, H⟩ := H
    replace H : (fact_Fact_25.l1 k1 t162 l0 (l0.length : Int) 0) = some r := H
    have A6 := Aside0.mk A60; clear A60
    have H' := Aside0.mk H
    clear H
    go_wp2_with (first | ((with_reducible refine gate_callee (f := 40) rfl ?_); refine goesL_ (some 24) rfl rfl Try.func40 (by kernel_rfl) rfl #[.slice none 0 0, .int .i64 x3_1] rfl mp_ ?_; (with_reducible refine (fact_Grow.calls  x3_1 t162 _ A6.out).mono ?_); rintro e w7 ⟨v163, rfl, ho0, hb⟩; refine ⟨_, rfl, ?_⟩; have n0_ := Aside0.mk (Kd.R_lower ho0 (below_size bw)); have n1_ := Aside0.mk (below_step bw hb); clear HB; have HO164 := n0_; have HB := n1_; clear n0_ n1_; (try clear hb); (try clear hb2); (try clear hk); (try clear hi); (try clear ho0)))
    go_loopg [6, 27] k1 (fun kq v6 v27 w' => ∃ (x6_2 : List (S55)) (x27_2 : Int), v27 = .int .i64 x27_2 ∧ Aside0 (fact_Fact_25.l1 kq x6_2 l0 (l0.length : Int) x27_2 = some r) ∧ Aside0 (kq ≤ k1) ∧ Aside0 (Kd.R k55 55 w' w.heap.size (fun _ => True) v6 x6_2) ∧ Aside0 (Below w.heap.size w w'))
    case atStart => exact ⟨(t162), (0), rs_, H', ⟨Nat.le_refl _⟩, ⟨kr HO164⟩, ⟨bw⟩⟩
    case round =>
     clear H'
     (try clear c1); (try clear p1); (try clear q1); (try clear hx1); (try clear c2); (try clear c2b0); (try clear p2); (try clear c3); (try clear c3b0); (try clear c4); (try clear c4b0); (try clear c5); (try clear c5b0); (try clear p6); (try clear hx161_0); (try clear p161); (try clear q161)
     obtain ⟨x6_2, x27_2, rfl, HA, HK2, HO_6, HB⟩ := hrel
     cases gk with
     | zero => exact absurd HA.out (by simp [fact_Fact_25.l1])
     | succ k2 =>
      have H := HA.out; clear HA
      simp only [fact_Fact_25.l1] at H
      by_cases c8 : x27_2 < (l0.length : Int)
      ·rw [if_pos c8] at H
       have c8b0 : decide (x27_2 < (l0.length : Int)) = true := decide_eq_true c8
       clear c8
       by_cases c9 : 0 ≤ x27_2
       ·rw [if_pos c9] at H
        have c9b0 : decide (0 ≤ x27_2) = true := decide_eq_true c9
        clear c9
        by_cases c10 : x27_2 < (l0.length : Int)
        ·rw [if_pos c10] at H
         have c10b0 : decide (x27_2 < (l0.length : Int)) = true := decide_eq_true c10
         clear c10
         by_cases c11 : x6_2.length + (rd_L4 l0 x27_2).length < 1759218604441
         ·rw [if_pos c11] at H; have LMc11 := Aside0.mk c11; clear c11
          obtain ⟨y166, hy166⟩ : ∃ y_ : List (S55), y_ = (x6_2 ++ (rd_L4 l0 x27_2)) := ⟨_, rfl⟩
          replace H : (fact_Fact_25.l1 k2 y166 l0 (l0.length : Int) (wrap64 (x27_2 + 1))) = some r := rh hy166 H
          have Ny166 := Aside0.mk hy166; clear hy166
          have H' := Aside0.mk H
          clear H
          have p165 : 0 ≤ (x27_2 : Int) := of_decide_eq_true as_
          have q165 : x27_2 < (l0.length : Int) := of_decide_eq_true as_
          obtain ⟨ad165, A165_0, c165_0, e165, hx165_0, hl165_0, hi165_0⟩ := at_L4 HR0.out x27_2 p165 q165
          cases e165; replace hx165_0 := cb HB hx165_0; have HR165_0 := Aside0.mk hi165_0; have HC165_0 := Aside0.mk hl165_0; clear hi165_0 hl165_0; replace p165 := eq_true p165; replace q165 := eq_true q165
          go_wp2_with (first | ((with_reducible refine gate_builtin (b := .append) (xs := #[.tmp 31, .tmp 32]) rfl ?_); at_builtin; refine Kd.R_append_rows k55 (w0 := w) w.heap.size rfl (.tmp 31) (.tmp 32) 30 55 (.agg #[(.string ⟨#[]⟩), (.string ⟨#[]⟩), (.string ⟨#[]⟩), (.string ⟨#[]⟩), (.int .i64 0), (.int .i64 0)]) 80 rfl Try.underlying30 info55 rfl (by decide) (by omega) u6 x6_2 (rd_L4 l0 x27_2) _ _ _ (fun _ => True) (fun _ => False) rfl rfl ?aO ?aR (fun _ _ h => h) (fun _ h => h.elim) ?aF ?aB ?aS ?aL ?_; (case aR => repeat (first | exact (Kd.C_below HR165_0.out HB.out) | (with_reducible refine Kd.C_alloc ?_ _) | (with_reducible refine Kd.C_drewN ?_ _) | (with_reducible refine Kd.C_drew ?_))); (case aB => exact bw); (case aF => exact (fun _ _ => trivial)); (case aO => exact (kr HO_6)); (case aS => exact (below_size bw)); (case aL => have := LMc11.out; omega); intro v167 w12 ho hb hg hat; rw [← Ny166.out] at ho; have n0_ := Aside0.mk (hb); have n1_ := Aside0.mk (ho); clear HB; clear HO_6; have HB := n0_; have HO168 := n1_; clear n0_ n1_; clear ho hb hg hat))
          go_roundg k2
          case measure => have := HK1.out; have := HK2.out; omega
          case rel => exact ⟨(y166), (wrap64 (x27_2 + 1)), rs_, H', ⟨by have := HK1.out; have := HK2.out; omega⟩, ⟨kr HO168⟩, ⟨bw⟩⟩
         ·rw [if_neg c11] at H
          exact absurd H (by simp)
        ·rw [if_neg c10] at H
         exact absurd H (by simp)
       ·rw [if_neg c9] at H
        exact absurd H (by simp)
      ·rw [if_neg c8] at H
       have c8b0 : decide (x27_2 < (l0.length : Int)) = false := decide_eq_false c8
       clear c8
       obtain rfl := Option.some.inj H
       go_wp2; go_ret
       exact ⟨_, by first | rfl | (simp [errW_none, errW_some] <;> rfl) | (simp [*, errW_none, errW_some] <;> rfl), kr HO_6, bw⟩

end Go.Proofs.Ytdckeflggcefbaa.Y
namespace Go.Proofs.Ytdckeflggcefbaa.Y
open Go.RowKit Go.Proofs.YtdckeflggcefbaaW.PrintWords Go.Proofs.YtdckeflggcefbaaW.PrintLast Go.Proofs.YtdckeflggcefbaaW.PrintMore
set_option linter.unusedVariables false
set_option linter.unusedSimpArgs false
theorem eqA44 (d : Nat) (w : World) (x0 y0 : ByteArray) (x1 y1 : ByteArray) (x2 y2 : ByteArray) (x3 y3 : ByteArray) (x4 y4 : Int) :
    (Op.equalIn (d + 2) 44 (.agg #[.string x0, .string x1, .string x2, .string x3, .int .i64 x4]) (.agg #[.string y0, .string y1, .string y2, .string y3, .int .i64 y4])).run Try.prog w = .ok (x0.toList == y0.toList && (x1.toList == y1.toList && (x2.toList == y2.toList && (x3.toList == y3.toList && (x4 == y4))))) w := by
  refine eqA_of Try.underlying44 (by kernel_rfl) ?_
  refine eqf_cons (by rfl) (by go_simp; rfl) (by go_simp; rfl) (by go_simp) ?_
  refine eqf_cons (by rfl) (by go_simp; rfl) (by go_simp; rfl) (by go_simp) ?_
  refine eqf_cons (by rfl) (by go_simp; rfl) (by go_simp; rfl) (by go_simp) ?_
  refine eqf_cons (by rfl) (by go_simp; rfl) (by go_simp; rfl) (by go_simp) ?_
  exact eqf_last (by rfl) (by go_simp; rfl) (by go_simp; rfl) (by go_simp)
/-- One key, as '==' tells it. -/
def sameKey (x y : S55) : Bool := x.f0.f0.toList == y.f0.f0.toList && (x.f0.f1.toList == y.f0.f1.toList && (x.f0.f2.toList == y.f0.f2.toList && (x.f0.f3.toList == y.f0.f3.toList && (x.f0.f4 == y.f0.f4))))
/-- How many facts of the first one's key stand at the begin. -/
def runLen : List S55 → Nat
  | [] => 0
  | x :: xs => 1 + (xs.takeWhile (fun y => sameKey y x)).length
theorem runLen_le (l : List S55) : runLen l ≤ l.length := by
  cases l with
  | nil => simp [runLen]
  | cons x xs => simp only [runLen, List.length_cons]; have := (List.takeWhile_sublist (l := xs) (fun y => sameKey y x)).length_le; omega
theorem runLen_pos {l : List S55} (h : l ≠ []) : 1 ≤ runLen l := by
  cases l with
  | nil => exact absurd rfl h
  | cons x xs => simp only [runLen]; omega
theorem takeWhile_at {α : Type} (p : α → Bool) : ∀ (xs : List α) (i : Nat), i < (xs.takeWhile p).length → ∃ y, xs[i]? = some y ∧ p y = true
  | [], i, h => by simp at h
  | x :: xs, i, h => by
    by_cases hp : p x = true
    · cases i with
      | zero => exact ⟨x, rfl, hp⟩
      | succ i => rw [List.takeWhile_cons_of_pos hp] at h; obtain ⟨y, h1, h2⟩ := takeWhile_at p xs i (by simpa using h); exact ⟨y, by simpa using h1, h2⟩
    · rw [List.takeWhile_cons_of_neg hp] at h; simp at h
theorem takeWhile_end {α : Type} (p : α → Bool) : ∀ (xs : List α) (y : α), xs[(xs.takeWhile p).length]? = some y → p y = false
  | [], y, h => by simp at h
  | x :: xs, y, h => by
    by_cases hp : p x = true
    · rw [List.takeWhile_cons_of_pos hp] at h; exact takeWhile_end p xs y (by simpa using h)
    · rw [List.takeWhile_cons_of_neg hp] at h
      have : x = y := by simpa using h
      subst this; simpa using hp
/-- Within the run the key is the first one's. -/
theorem runIn_ {l : List S55} {n : Nat} (h1 : 1 ≤ n) (h2 : n < runLen l) : n < l.length ∧ sameKey (rd_T55 l (n : Int)) (rd_T55 l 0) = true := by
  cases l with
  | nil => simp [runLen] at h2
  | cons x xs =>
    simp only [runLen] at h2
    obtain ⟨y, hy, hp⟩ := takeWhile_at (fun y => sameKey y x) xs (n - 1) (by omega)
    have hlt := (List.getElem?_eq_some_iff.1 hy).1
    refine ⟨by simp only [List.length_cons]; omega, ?_⟩
    obtain ⟨m, rfl⟩ : ∃ m, n = m + 1 := ⟨n - 1, by omega⟩
    simp only [rd_T55, Int.toNat_natCast, List.getD_eq_getElem?_getD, List.getElem?_cons_succ]
    simp only [Nat.add_sub_cancel] at hy
    rw [hy]; exact hp
/-- Right behind the run it is another one. -/
theorem run_end {l : List S55} (h : runLen l < l.length) : sameKey (rd_T55 l (runLen l : Int)) (rd_T55 l 0) = false := by
  cases l with
  | nil => simp at h
  | cons x xs =>
    simp only [runLen, List.length_cons] at h ⊢
    have hlt : (xs.takeWhile (fun y => sameKey y x)).length < xs.length := by omega
    have := takeWhile_end (fun y => sameKey y x) xs _ (List.getElem?_eq_getElem hlt)
    rw [show (((1 + (xs.takeWhile (fun y => sameKey y x)).length : Nat)) : Int) = (((xs.takeWhile (fun y => sameKey y x)).length + 1 : Nat) : Int) by omega]
    simp only [rd_T55, Int.toNat_natCast, List.getD_eq_getElem?_getD, List.getElem?_cons_succ]
    rw [List.getElem?_eq_getElem hlt]
    exact this
attribute [local go_sem high] eqA44
theorem info29 : (Try.prog.info? 55).isSome = true := by kernel_rfl
set_option maxHeartbeats 1000000 in
/-- fact.runs: the argument is boxed; the function value captures the box. -/
theorem runs_in (n : Nat) (A : Option Addr) (m c : Nat) (w : World) :
    CallsIn Fence.wide n Try.prog 35 #[.slice A m c] w fun e w' => e = .returned (.func (.func 44) #[] #[.pointer (some ⟨w.heap.size, 0, none⟩)]) ∧ w' = w.alloc (.cells #[.slice A m c] 29) := by
  refine callsIn_of_wp Try.func35 rfl trivial ?_
  simp only [Try.ntmps35, List.size_toArray, List.length_cons, List.length_nil, Nat.reduceAdd, Nat.reduceSub, Array.replicate_succ, Array.replicate_zero, List.push_toArray, List.append_toArray, List.nil_append, List.cons_append]
  gi_wp2
  go_ret
  exact ⟨rfl, rfl⟩
set_option maxHeartbeats 4000000 in
set_option maxRecDepth 100000 in
/-- The iterator's own text. Jm cur rest: the box holds cur, of which rest is still to come; Jx: a round has said 'no more'. -/
theorem runs1_in (n : Nat) (hn : 1 ≤ n) (l Bn gs : Nat) (Jm : List S55 → List S55 → World → Prop) (Jx : World → Prop)
    (hcell : ∀ cur rest W, Jm cur rest W → ∃ A c, W.cell? ⟨Bn, 0, none⟩ = some (.slice A cur.length c) ∧ W.frozen? ⟨Bn, 0, none⟩ = false ∧ cur.length ≤ c ∧ c ≤ 9223372036854775807 ∧ Kd.C k55 W A cur.length cur ∧ (∀ ad, A = some ad → ad.block = gs))
    (hdrew : ∀ cur rest W m, Jm cur rest W → Jm cur rest (W.drewN m))
    (hset : ∀ cur rest W A c, Jm cur rest W → Kd.C k55 W A rest.length rest → rest.length ≤ c → c ≤ 9223372036854775807 → (∀ ad, A = some ad → ad.block = gs) → Jm rest rest (W.setCell ⟨Bn, 0, none⟩ (.slice A rest.length c)))
    (hY : ∀ cur W A c, Jm cur cur W → cur ≠ [] → W.cell? ⟨Bn, 0, none⟩ = some (.slice A cur.length c) → Kd.C k55 W A cur.length cur → cur.length ≤ c → YieldAt Fence.wide (n - 1) Try.prog l #[.slice A (runLen cur) c] W fun e W' =>
      (e = .returned (.bool true) ∧ Jm cur (cur.drop (runLen cur)) W') ∨ (e = .returned (.bool false) ∧ Jx W'))
    (xs : List S55) (W : World) (h0 : Jm xs xs W) :
    CallsIn Fence.wide n Try.prog 44 #[.func (.yield l) #[] #[], .pointer (some ⟨Bn, 0, none⟩)] W fun e W' => (∃ v, e = .returned v) ∧ (Jm [] [] W' ∨ Jx W') := by
  have HCELL := Aside0.mk hcell
  have HDREW := Aside0.mk hdrew
  have HSET := Aside0.mk hset
  have HY := Aside0.mk hY
  have H0 := Aside0.mk h0
  clear hcell hdrew hset hY h0
  refine callsIn_of_wp Try.func44 rfl trivial ?_
  simp only [Try.ntmps44, List.size_toArray, List.length_cons, List.length_nil, Nat.reduceAdd, Nat.reduceSub, Array.replicate_succ, Array.replicate_zero, List.push_toArray, List.append_toArray, List.nil_append, List.cons_append]
  gi_wp2
  gi_loopg [] xs.length (fun g wr => ∃ cur, Aside0 (cur.length ≤ g) ∧ Aside0 (Jm cur cur wr))
  case atStart => exact ⟨xs, ⟨Nat.le_refl _⟩, H0⟩
  case round =>
    obtain ⟨cur, HL, HJ⟩ := hrel
    obtain ⟨A, c, hc, hf, hle, hcm, hC, hAx⟩ := HCELL.out cur cur wr HJ.out
    clear hAx
    have HC := Aside0.mk hC
    have HLE := Aside0.mk hle
    have HCM := Aside0.mk hcm
    clear hC hle hcm
    by_cases hcur : cur = []
    · subst hcur
      simp only [List.length_nil] at hc
      gi_wp2
      go_end0
      exact ⟨⟨_, rfl⟩, .inl HJ.out⟩
    · have hpos : decide (0 < cur.length) = true := decide_eq_true (List.length_pos_iff.2 hcur)
      have hpos1 : 0 < cur.length := List.length_pos_iff.2 hcur
      have HCUR := Aside0.mk hcur
      clear hcur
      obtain ⟨g0, HG0⟩ : ∃ g0, Aside0 (gk = g0) := ⟨_, ⟨rfl⟩⟩
      gi_wp2
      gi_loopg [3] (runLen cur) (fun g v wr2 => ∃ (m q : Nat), v = .int .i64 m ∧ Aside0 (1 ≤ m) ∧ Aside0 (m ≤ runLen cur) ∧ Aside0 (runLen cur - m ≤ g) ∧ Aside0 (wr2 = wr.drewN q))
      case atStart => exact ⟨1, 0, by go_num, ⟨Nat.le_refl _⟩, ⟨runLen_pos HCUR.out⟩, ⟨Nat.sub_le _ _⟩, ⟨rfl⟩⟩
      case round =>
        obtain ⟨m, q, rfl, HM1, HM2, HG, HW⟩ := hrel
        obtain rfl := HW.out
        clear HW
        have hcq : (wr.drewN q).cell? ⟨Bn, 0, none⟩ = some (.slice A cur.length c) := hc
        have hfq : (wr.drewN q).frozen? ⟨Bn, 0, none⟩ = false := hf
        have HCQ := Aside0.mk (show Kd.C k55 (wr.drewN q) A cur.length cur from HC.out)
        by_cases hm : m < runLen cur
        · obtain ⟨hlt, hs⟩ := runIn_ HM1.out hm
          obtain ⟨ad, e1, x0, x1, x2, x3, x4, _⟩ := at_T55 HCQ.out (m : Int) (by omega) (by omega)
          subst e1
          obtain ⟨ad', e2, y0, y1, y2, y3, y4, _⟩ := at_T55 HCQ.out 0 (by omega) (by omega)
          obtain rfl : ad = ad' := by injection e2
          clear e2
          have HM := Aside0.mk hm
          simp only [sameKey, Bool.and_eq_true] at hs
          obtain ⟨s0, s1, s2, s3, s4⟩ := hs
          have hg1 : decide (m < cur.length) = true := decide_eq_true hlt
          have hg2 : decide ((m : Int) < (cur.length : Int)) = true := decide_eq_true (by omega)
          have hg3 : (0 : Int) ≤ (m : Int) := by omega
          have hg4 : (0 : Int) < (cur.length : Int) := by omega
          clear hm
          simp only [Int.toNat_natCast, Int.toNat_zero, Nat.zero_mul, Addr.add_zero'] at x0 x1 x2 x3 x4 y0 y1 y2 y3 y4
          have hu44 := Try.underlying44
          have hu55 := Try.underlying55
          have hmb : (m : Int) + 1 ≤ 9223372036854775807 := by have := HCM.out; have := HLE.out; omega
          obtain ⟨wq, hwq⟩ : ∃ wq, wr.drewN q = wq := ⟨_, rfl⟩
          have HWQ := Aside0.mk hwq
          rw [hwq] at hcq hfq HCQ x0 x1 x2 x3 x4 y0 y1 y2 y3 y4 ⊢
          clear hc hf hwq
          gi_wp2
          gi_quiet (fail)
          gi_wp2
          gi_roundg (runLen cur - (m + 1))
          case measure => have := HG.out; have := HM.out; omega
          case rel => exact ⟨m + 1, q + nq, by go_num, ⟨by omega⟩, ⟨HM.out⟩, ⟨Nat.le_refl _⟩, ⟨by rw [← HWQ.out, World.drewN_drewN]⟩⟩
        · obtain rfl : m = runLen cur := by have := HM2.out; omega
          clear HM1 HM2 HG hm
          have hrb : (runLen cur : Int) + 1 ≤ 9223372036854775807 ∨ True := .inr trivial
          clear hrb
          obtain ⟨ad, e1, _⟩ := HCQ.out.2.2 hpos1
          subst e1
          obtain ⟨i55, hi55, hz55⟩ := Option.map_eq_some_iff.1 info55
          have HI := Aside0.mk hi55
          have HI6 := Aside0.mk (show i55.size = 6 from by simp only [Prod.mk.injEq] at hz55; exact hz55.2.1)
          clear hi55 hz55
          have hu44 := Try.underlying44
          have hu55 := Try.underlying55
          have HJQ := Aside0.mk (HDREW.out _ _ _ q HJ.out)
          have hmc : runLen cur ≤ c := Nat.le_trans (runLen_le cur) HLE.out
          have hmc' : (0 : Int) ≤ (runLen cur : Int) := by omega
          obtain ⟨wq, hwq⟩ : ∃ wq, wr.drewN q = wq := ⟨_, rfl⟩
          by_cases hlt : runLen cur < cur.length
          · have hs := run_end hlt
            simp only [sameKey] at hs
            obtain ⟨ad1, e1, x0, x1, x2, x3, x4, _⟩ := at_T55 HCQ.out (runLen cur : Int) (by omega) (by omega)
            obtain rfl : ad = ad1 := by injection e1
            obtain ⟨ad', e2, y0, y1, y2, y3, y4, _⟩ := at_T55 HCQ.out 0 (by omega) (by omega)
            obtain rfl : ad = ad' := by injection e2
            clear e1 e2
            have hg1 : decide (runLen cur < cur.length) = true := decide_eq_true hlt
            have hg2 : decide ((runLen cur : Int) < (cur.length : Int)) = true := decide_eq_true (by omega)
            have hg3 : (0 : Int) ≤ (runLen cur : Int) := by omega
            have hg4 : (0 : Int) < (cur.length : Int) := by omega
            simp only [Int.toNat_natCast, Int.toNat_zero, Nat.zero_mul, Addr.add_zero'] at x0 x1 x2 x3 x4 y0 y1 y2 y3 y4
            rw [hwq] at hcq hfq HCQ HJQ x0 x1 x2 x3 x4 y0 y1 y2 y3 y4 ⊢
            clear hc hf hwq
            gi_wp2
            gi_quiet (fail)
            clear x0 x1 x2 x3 x4 y0 y1 y2 y3 y4
            obtain ⟨fn, tmps, assign, body, hy, hR⟩ := HY.out cur (wq.drewN nq) (some ad) c (HDREW.out _ _ _ _ HJQ.out) HCUR.out hcq HCQ.out HLE.out
            gi_wp2
            refine hR.mono ?_
            rintro e W3 (⟨rfl, hJ3⟩ | ⟨rfl, hJx3⟩)
            · obtain ⟨A3, c3, hc3, hf3, hle3, hcm3, hC3, hA3⟩ := HCELL.out _ _ W3 hJ3
              obtain ⟨ad3, e3, _⟩ := hC3.2.2 hpos1
              subst e3
              have hn3 : runLen cur ≤ cur.length := runLen_le cur
              have cutf := cut_from (P := Try.prog) 29 55 .i64 Try.underlying29 HI.out 6 HI6.out (some ad3) cur.length c3 (runLen cur) (by omega) (by omega)
              have hC4 := Kd.C_drop (m := runLen cur) (c := c3) hC3 hn3 hle3
              have hJ4 := HSET.out _ _ W3 _ (c3 - runLen cur) hJ3 hC4 (by simp only [List.length_drop]; omega) (by omega) (fun ad_ e_ => by
                split at e_
                · exact hA3 _ e_
                · cases e_; rw [← hA3 ad3 rfl]; simp only [Addr.add]; split <;> rfl)
              simp only [Int.toNat_natCast] at cutf
              rw [List.length_drop, show k55.sz = 6 from rfl] at hJ4
              have HJa := Aside0.mk (show c3 = runLen cur → Jm (cur.drop (runLen cur)) (cur.drop (runLen cur)) (W3.setCell ⟨Bn, 0, none⟩ (.slice (some ad3) (cur.length - runLen cur) 0)) from fun e => by rw [if_pos e, e, Nat.sub_self] at hJ4; exact hJ4)
              have HJb := Aside0.mk (show ¬ c3 = runLen cur → Jm (cur.drop (runLen cur)) (cur.drop (runLen cur)) (W3.setCell ⟨Bn, 0, none⟩ (.slice (some (ad3.add (runLen cur * 6))) (cur.length - runLen cur) (c3 - runLen cur))) from fun e => by rw [if_neg e] at hJ4; exact hJ4)
              have HN3 := Aside0.mk hn3
              have HL1 := Aside0.mk (show (cur.drop (runLen cur)).length ≤ g0 - 1 ∧ 1 ≤ g0 from by have := HL.out; have := HG0.out; have := runLen_pos HCUR.out; simp only [List.length_drop]; omega)
              clear hJ4 hC4 hC3 hJ3 hn3 hle3 hcm3 hA3 HJQ
              gi_wp2
              all_goals
                gi_roundg (g0 - 1)
                case measure => have := HG0.out; have := HL1.out; omega
                case rel => exact ⟨cur.drop (runLen cur), ⟨HL1.out.1⟩, ⟨by first | exact HJa.out (by assumption) | exact HJb.out (by assumption)⟩⟩
            · gi_wp2
              refine bodyPost_ret (results_none rfl _ _ _) rfl ?_
              exact ⟨⟨_, rfl⟩, .inr hJx3⟩
          · have hg1 : decide (runLen cur < cur.length) = false := decide_eq_false hlt
            have hg2 : decide ((runLen cur : Int) < (cur.length : Int)) = false := decide_eq_false (by omega)
            rw [hwq] at hcq hfq HCQ HJQ ⊢
            clear hc hf hwq
            gi_wp2
            gi_quiet (fail)
            obtain ⟨fn, tmps, assign, body, hy, hR⟩ := HY.out cur (wq.drewN nq) (some ad) c (HDREW.out _ _ _ _ HJQ.out) HCUR.out hcq HCQ.out HLE.out
            gi_wp2
            refine hR.mono ?_
            rintro e W3 (⟨rfl, hJ3⟩ | ⟨rfl, hJx3⟩)
            · obtain ⟨A3, c3, hc3, hf3, hle3, hcm3, hC3, hA3⟩ := HCELL.out _ _ W3 hJ3
              obtain ⟨ad3, e3, _⟩ := hC3.2.2 hpos1
              subst e3
              have hn3 : runLen cur ≤ cur.length := runLen_le cur
              have cutf := cut_from (P := Try.prog) 29 55 .i64 Try.underlying29 HI.out 6 HI6.out (some ad3) cur.length c3 (runLen cur) (by omega) (by omega)
              have hC4 := Kd.C_drop (m := runLen cur) (c := c3) hC3 hn3 hle3
              have hJ4 := HSET.out _ _ W3 _ (c3 - runLen cur) hJ3 hC4 (by simp only [List.length_drop]; omega) (by omega) (fun ad_ e_ => by
                split at e_
                · exact hA3 _ e_
                · cases e_; rw [← hA3 ad3 rfl]; simp only [Addr.add]; split <;> rfl)
              simp only [Int.toNat_natCast] at cutf
              rw [List.length_drop, show k55.sz = 6 from rfl] at hJ4
              have HJa := Aside0.mk (show c3 = runLen cur → Jm (cur.drop (runLen cur)) (cur.drop (runLen cur)) (W3.setCell ⟨Bn, 0, none⟩ (.slice (some ad3) (cur.length - runLen cur) 0)) from fun e => by rw [if_pos e, e, Nat.sub_self] at hJ4; exact hJ4)
              have HJb := Aside0.mk (show ¬ c3 = runLen cur → Jm (cur.drop (runLen cur)) (cur.drop (runLen cur)) (W3.setCell ⟨Bn, 0, none⟩ (.slice (some (ad3.add (runLen cur * 6))) (cur.length - runLen cur) (c3 - runLen cur))) from fun e => by rw [if_neg e] at hJ4; exact hJ4)
              have HN3 := Aside0.mk hn3
              have HL1 := Aside0.mk (show (cur.drop (runLen cur)).length ≤ g0 - 1 ∧ 1 ≤ g0 from by have := HL.out; have := HG0.out; have := runLen_pos HCUR.out; simp only [List.length_drop]; omega)
              clear hJ4 hC4 hC3 hJ3 hn3 hle3 hcm3 hA3 HJQ
              gi_wp2
              all_goals
                gi_roundg (g0 - 1)
                case measure => have := HG0.out; have := HL1.out; omega
                case rel => exact ⟨cur.drop (runLen cur), ⟨HL1.out.1⟩, ⟨by first | exact HJa.out (by assumption) | exact HJb.out (by assumption)⟩⟩
            · gi_wp2
              refine bodyPost_ret (results_none rfl _ _ _) rfl ?_
              exact ⟨⟨_, rfl⟩, .inr hJx3⟩
def fact_Clone.f (l0 : List S55) : Option (List S55) := if l0.length < 1759218604441 then some l0 else none
set_option maxHeartbeats 8000000 in
set_option maxRecDepth 100000 in
theorem fact_Clone.calls (A0 : Option Addr) (c0 : Nat) (l0 : List (S55)) (r : List (S55)) (w : World) (hr0 : Kd.C k55 w A0 l0.length l0) (hc0 : l0.length ≤ c0) (h : fact_Clone.f l0 = some r) :
    Calls Try.prog 32 #[.slice A0 l0.length c0] w fun e w' => ∃ v0_ : Value, e = .returned (v0_) ∧ Kd.R k55 55 w' w.heap.size (fun _ => True) v0_ r ∧ Below w.heap.size w w' := by
  have HR0 := Aside0.mk hr0
  have HC0 := Aside0.mk hc0
  have H : (if l0.length < 1759218604441 then some l0 else none) = some r := h
  clear h
  by_cases c1 : l0.length < 1759218604441
  case neg => rw [if_neg c1] at H; exact absurd H (by simp)
  rw [if_pos c1] at H
  obtain rfl := Option.some.inj H
  clear H
  have LM := Aside0.mk c1
  clear c1
  have q29 : ∀ (w : World) (a : Option Addr) (n c n' c' : Nat), (binOp .eql 29 (.slice a n c) (.slice none n' c')).run Try.prog w = .ok (.bool a.isNone) w := fun w a n c n' c' => Lib.run_eql_slice_nil w _ _ a n c n' c' Try.underlying29
  cases A0 with
  | none =>
    obtain rfl : l0 = [] := by
      cases l0 with
      | nil => rfl
      | cons x xs => obtain ⟨ad, e, _⟩ := hr0.2.2 (by simp); cases e
    clear hr0 hc0
    go_enter Try.func32, Try.ntmps32
    go_wp2
    go_ret
    exact ⟨_, rfl, Kd.R_nil _ _ _ _ _, Below.refl _ _⟩
  | some ad =>
    clear hr0 hc0
    have HB := Aside0.mk (Below.refl w.heap.size w)
    go_enter Try.func32, Try.ntmps32
    go_wp2_with (first | ((with_reducible refine gate_dst (N := 5) rfl ?_); refine Kd.R_lit k55 _ 55 ?hg (N := 5) ?hd (xs := ([] : List (S55))) (inner := []) (ok := fun _ => True) (okp := fun _ => True) ?hr ?hp (fun _ hk => hk) trivial (Below.refl _ _) (Nat.le_refl _) (by simp) ?_; (case hd => rfl); (case hg => rfl); (case hr => first | (go_simp; done) | (go_simp; rfl)); (case hp => exact (Reps.none _ _)); intro v269 w6 ho7 hb hg_ hnew_; clear hg_ hnew_; have n0_ := Aside0.mk (Kd.R_lower ho7 (below_size (by repeat (first | (with_reducible first | exact HB.out | apply below_alloc | apply pw_below_drewN | apply below_drew1) | exact HB.out)))); have n1_ := Aside0.mk (below_step (by repeat (first | (with_reducible first | exact HB.out | apply below_alloc | apply pw_below_drewN | apply below_drew1) | exact HB.out)) hb); clear HB; have HO270 := n0_; have HB := n1_; clear n0_ n1_; clear hb ho7) | ((with_reducible refine gate_builtin (b := .append) (xs := #[.tmp 5, .tmp 6]) rfl ?_); at_builtin; refine Kd.R_append_rows k55 (w0 := w) w.heap.size rfl (.tmp 5) (.tmp 6) 29 55 (.agg #[(.string ⟨#[]⟩), (.string ⟨#[]⟩), (.string ⟨#[]⟩), (.string ⟨#[]⟩), (.int .i64 0), (.int .i64 0)]) 80 rfl Try.underlying29 info55 rfl (by decide) (by omega) v269 [] l0 _ _ _ (fun _ => True) (fun _ => False) rfl rfl ?aO ?aR (fun _ _ h => h) (fun _ h => h.elim) ?aF ?aB ?aS ?aL ?_; (case aR => repeat (first | exact (Kd.C_below HR0.out HB.out) | (with_reducible refine Kd.C_alloc ?_ _) | (with_reducible refine Kd.C_drewN ?_ _) | (with_reducible refine Kd.C_drew ?_))); (case aB => exact (by repeat (first | (with_reducible first | exact HB.out | apply below_alloc | apply pw_below_drewN | apply below_drew1) | exact HB.out))); (case aF => exact (fun _ _ => trivial)); (case aO => exact (by (with_reducible repeat (first | apply Kd.R_alloc | apply Kd.R_drewN | apply Kd.R_drew)); exact HO270.out)); (case aS => exact (below_size (by repeat (first | (with_reducible first | exact HB.out | apply below_alloc | apply pw_below_drewN | apply below_drew1) | exact HB.out)))); (case aL => have := LM.out; simp; omega); intro v272 w8 ho hb hg hat; have n0_ := Aside0.mk (hb); have n1_ := Aside0.mk (ho); clear HB; clear HO270; have HB := n0_; have HO273 := n1_; clear n0_ n1_; clear ho hb hg hat))
    go_ret
    exact ⟨_, rfl, by simpa using Kd.R_mono HO273.out (fun _ hk => trivial), HB.out⟩
end Go.Proofs.Ytdckeflggcefbaa.Y
namespace Go.Proofs.Ytdckeflggcefbaa.Y
open Go.RowKit Go.Proofs.YtdckeflggcefbaaW.PrintWords Go.Proofs.YtdckeflggcefbaaW.PrintLast Go.Proofs.YtdckeflggcefbaaW.PrintMore
attribute [local go_sem] max2_int min2_int max_two min_two max_three min_three max_four min_four
set_option linter.unusedVariables false
set_option linter.unusedSimpArgs false

/-! ### cent_Add: function 28 -/
def cent_Add.f (a0 : Int) (a1 : Int) : Option (Int × Int) := if (Go.bits .and .i64 (Go.bits .xor .i64 a0 (wrap64 (a0 + a1))) (Go.bits .xor .i64 a1 (wrap64 (a0 + a1)))) < 0 then (some (0, 2)) else (some (wrap64 (a0 + a1), 0))
set_option maxHeartbeats 8000000 in
set_option maxRecDepth 100000 in
theorem cent_Add.calls (a0 : Int) (a1 : Int) (r1 : Int) (r2 : Int) (w : World) (h : cent_Add.f a0 a1 = some (r1, r2)) :
  Calls Try.prog 28 #[.int .i64 a0, .int .i64 a1] w fun e w' => e = .returned (.tuple #[.int .i64 r1, .int .i64 r2]) ∧ Drawn0 w w' := by
 have H : (if (Go.bits .and .i64 (Go.bits .xor .i64 a0 (wrap64 (a0 + a1))) (Go.bits .xor .i64 a1 (wrap64 (a0 + a1)))) < 0 then (some (0, 2)) else (some (wrap64 (a0 + a1), 0))) = some (r1, r2) := h
 clear h
 by_cases c3 : (Go.bits .and .i64 (Go.bits .xor .i64 a0 (wrap64 (a0 + a1))) (Go.bits .xor .i64 a1 (wrap64 (a0 + a1)))) < 0
 ·rw [if_pos c3] at H
  have c3b0 : decide ((Go.bits .and .i64 (Go.bits .xor .i64 a0 (wrap64 (a0 + a1))) (Go.bits .xor .i64 a1 (wrap64 (a0 + a1)))) < 0) = true := decide_eq_true c3
  clear c3
  simp only [Option.some.injEq, Prod.mk.injEq] at H
  obtain ⟨rfl, rfl⟩ := H
  go_enter Try.func28, Try.ntmps28
  go_wp2
  go_ret2
  exact ⟨by first | rfl | (simp; done) | (simp [*]; done), by repeat (first | exact Drawn0.refl _ | apply Drawn0.step)⟩
 ·rw [if_neg c3] at H
  have c3b0 : decide ((Go.bits .and .i64 (Go.bits .xor .i64 a0 (wrap64 (a0 + a1))) (Go.bits .xor .i64 a1 (wrap64 (a0 + a1)))) < 0) = false := decide_eq_false c3
  clear c3
  simp only [Option.some.injEq, Prod.mk.injEq] at H
  obtain ⟨rfl, rfl⟩ := H
  go_enter Try.func28, Try.ntmps28
  go_wp2
  go_ret2
  exact ⟨by first | rfl | (simp; done) | (simp [*]; done), by repeat (first | exact Drawn0.refl _ | apply Drawn0.step)⟩

end Go.Proofs.Ytdckeflggcefbaa.Y
namespace Go.Proofs.Ytdckeflggcefbaa.Y
open Go.RowKit Go.Proofs.YtdckeflggcefbaaW.PrintWords Go.Proofs.YtdckeflggcefbaaW.PrintLast Go.Proofs.YtdckeflggcefbaaW.PrintMore
theorem goesV_ {P : Program} {ops : Array Oper} {Q : Exit → Act → World → Prop} {oi : Oper} {N : Option Tmp} {a : Act} {w : World} {K : Act → World → Prop} {f : FuncId} {fn : Func} {x : Operand} {avs : Array Operand} {ts : Array TypeId} (hf : P.funcs[f]? = some fn) (hname : (fn.name == "runtime.NumGoroutine") = false) (hb : fn.body.isSome = true) (args : Array Value)
    (hw : Region.wanted oi (yielded ops a.tmps) = true) (hN : oi.dst = N) (hop : oi.op = .call { callee := .value x, args := avs, argTypes := ts }) (hx : a.eval x = .func (.func f) #[] #[]) (hargs : avs.map a.eval = args)
    (h : Calls P f args w fun e w' => ∃ v, e = .returned v ∧ K (a.put N v) w') : if Region.wanted oi (yielded ops a.tmps) = true then Oper.wp P oi a w K Q else K (a.put N undef) w := by
  rw [if_pos hw]
  subst hN
  have he := enters_ hf hname hb args w
  have hrun : (execOp a.eval oi).run P w = .ok (.enter f args) w := by
    unfold execOp
    simp [hop, resolve, Deferred.ofValue, invoke, hx, hargs, he]
  unfold Oper.wp
  rw [hrun, Oper.upon_enter]
  refine h.mono fun e w'' hh => ?_
  obtain ⟨v, rfl, hk⟩ := hh
  exact hk
end Go.Proofs.Ytdckeflggcefbaa.Y
namespace Go.Proofs.Ytdckeflggcefbaa.Y
open Go.RowKit Go.Proofs.YtdckeflggcefbaaW.PrintWords Go.Proofs.YtdckeflggcefbaaW.PrintLast Go.Proofs.YtdckeflggcefbaaW.PrintMore
attribute [local go_sem] max2_int min2_int max_two min_two max_three min_three max_four min_four
set_option linter.unusedVariables false
set_option linter.unusedSimpArgs false

/-! ### fact_Of_1: function 34 -/
def fact_Of_1.f (k : Nat) (a0_0 : ByteArray) (a0_1 : ByteArray) (a0_2 : ByteArray) (a0_3 : ByteArray) (a0_4 : Int) (a0_5 : Int) (a1_0 : ByteArray) (a1_1 : ByteArray) (a1_2 : ByteArray) (a1_3 : ByteArray) (a1_4 : Int) (a1_5 : Int) : Option (Int) := (fact_Cmp.f k a0_0 a0_1 a0_2 a0_3 a0_4 a1_0 a1_1 a1_2 a1_3 a1_4).bind fun t117 => (some t117)
theorem fact_Of_1.mono : ∀ a0 a1 a2 a3 a4 a5 a6 a7 a8 a9 a10 a11 k, LeO (fact_Of_1.f k a0 a1 a2 a3 a4 a5 a6 a7 a8 a9 a10 a11) (fact_Of_1.f (k + 1) a0 a1 a2 a3 a4 a5 a6 a7 a8 a9 a10 a11) := by
 intro a0 a1 a2 a3 a4 a5 a6 a7 a8 a9 a10 a11 k
 unfold fact_Of_1.f
 with_reducible repeat' first | apply fact_Cmp.mono | refine LeO.refl _ | refine LeO.none _ | refine LeO.ite ?_ ?_ | refine LeO.bind ?_ (fun _ => ?_)
set_option maxHeartbeats 8000000 in
set_option maxRecDepth 100000 in
theorem fact_Of_1.calls (k : Nat) (a0_0 : ByteArray) (a0_1 : ByteArray) (a0_2 : ByteArray) (a0_3 : ByteArray) (a0_4 : Int) (a0_5 : Int) (a1_0 : ByteArray) (a1_1 : ByteArray) (a1_2 : ByteArray) (a1_3 : ByteArray) (a1_4 : Int) (a1_5 : Int) (r : Int) (w : World) (h : fact_Of_1.f k a0_0 a0_1 a0_2 a0_3 a0_4 a0_5 a1_0 a1_1 a1_2 a1_3 a1_4 a1_5 = some r) :
  Calls Try.prog 34 #[.agg #[.string a0_0, .string a0_1, .string a0_2, .string a0_3, .int .i64 a0_4, .int .i64 a0_5], .agg #[.string a1_0, .string a1_1, .string a1_2, .string a1_3, .int .i64 a1_4, .int .i64 a1_5]] w fun e w' => e = .returned (.int .i64 r) ∧ Below w.heap.size w w' := by
 have hu55 := Try.underlying55; have hu44 := Try.underlying44
 have HB := Aside0.mk (Below.refl w.heap.size w)
 have H : ((fact_Cmp.f k a0_0 a0_1 a0_2 a0_3 a0_4 a1_0 a1_1 a1_2 a1_3 a1_4).bind fun t117 => (some t117)) = some r := h
 clear h
 replace H := Option.bind_eq_some_iff.mp H
 obtain ⟨t117, A30, H⟩ := H
 replace H : (some t117) = some r := H
 have A3 := Aside0.mk A30; clear A30
 obtain rfl := Option.some.inj H
 go_enter Try.func34, Try.ntmps34
 go_wp2_with (first | ((with_reducible refine gate_dst (N := 2) rfl ?_); refine box_event ?hg (N := 2) ?hd (cs := #[.string a0_0, .string a0_1, .string a0_2, .string a0_3, .int .i64 a0_4, .int .i64 a0_5]) (t := 55) ?hr ?_; (case hd => rfl); (case hg => rfl); (case hr => first | (go_simp; done) | (go_simp; rfl)); intro gb115 hg w4 hbox hb; have n0_ := Aside0.mk (below_step bw hb); have n1_ := Aside0.mk (hbox); have n2_ := Aside0.mk ((by rw [hg]; exact (below_size bw) : w.heap.size ≤ gb115)); have n3_ := Aside0.mk ((by rw [hg]; exact (below_size bw) : w.heap.size ≤ gb115)); clear HB; have HB := n0_; have BK115 := n1_; have GW115 := n2_; have GE115 := n3_; clear n0_ n1_ n2_ n3_; clear hb hbox hg) | ((with_reducible refine gate_dst (N := 3) rfl ?_); refine box_event ?hg (N := 3) ?hd (cs := #[.string a1_0, .string a1_1, .string a1_2, .string a1_3, .int .i64 a1_4, .int .i64 a1_5]) (t := 55) ?hr ?_; (case hd => rfl); (case hg => rfl); (case hr => first | (go_simp; done) | (go_simp; rfl)); intro gb116 hg w5 hbox hb; have n0_ := Aside0.mk (blk_below (g := gb115) (o := .cells #[.string a0_0, .string a0_1, .string a0_2, .string a0_3, .int .i64 a0_4, .int .i64 a0_5] 55 (0, 0)) (by (with_reducible repeat (first | refine blk_drewN ?_ _ | refine blk_drew ?_ | refine blk_alloc ?_ _)); exact BK115.out) hb); have n1_ := Aside0.mk (below_step bx hb); have n2_ := Aside0.mk (hbox); have n3_ := Aside0.mk ((by rw [hg]; exact (below_size bx) : w.heap.size ≤ gb116)); have n4_ := Aside0.mk ((by rw [hg]; exact (below_size bx) : w.heap.size ≤ gb116)); have n5_ := Aside0.mk ((by rw [hg]; exact Nat.ne_of_lt (blk_lt (g := gb115) (o := .cells #[.string a0_0, .string a0_1, .string a0_2, .string a0_3, .int .i64 a0_4, .int .i64 a0_5] 55 (0, 0)) (by (with_reducible repeat (first | refine blk_drewN ?_ _ | refine blk_drew ?_ | refine blk_alloc ?_ _)); exact BK115.out)) : gb115 ≠ gb116)); have n6_ := Aside0.mk ((by rw [hg]; exact Nat.ne_of_gt (blk_lt (g := gb115) (o := .cells #[.string a0_0, .string a0_1, .string a0_2, .string a0_3, .int .i64 a0_4, .int .i64 a0_5] 55 (0, 0)) (by (with_reducible repeat (first | refine blk_drewN ?_ _ | refine blk_drew ?_ | refine blk_alloc ?_ _)); exact BK115.out)) : gb116 ≠ gb115)); clear BK115; clear HB; have BK115 := n0_; have HB := n1_; have BK116 := n2_; have GW116 := n3_; have GE116 := n4_; have NB115_116 := n5_; have NB116_115 := n6_; clear n0_ n1_ n2_ n3_ n4_ n5_ n6_; clear hb hbox hg; have hnb6 := NB115_116.out; have hnc6 := NB116_115.out; obtain ⟨hcz7_0, hcz7_1, hcz7_2, hcz7_3, hcz7_4, hcz7_5⟩ := bc6 BK115.out; have hfz7_0 := blk_frozen BK115.out 0; have hfz7_1 := blk_frozen BK115.out 1; have hfz7_2 := blk_frozen BK115.out 2; have hfz7_3 := blk_frozen BK115.out 3; have hfz7_4 := blk_frozen BK115.out 4; have hfz7_5 := blk_frozen BK115.out 5; obtain ⟨hcz8_0, hcz8_1, hcz8_2, hcz8_3, hcz8_4, hcz8_5⟩ := bc6 BK116.out; have hfz8_0 := blk_frozen BK116.out 0; have hfz8_1 := blk_frozen BK116.out 1; have hfz8_2 := blk_frozen BK116.out 2; have hfz8_3 := blk_frozen BK116.out 3; have hfz8_4 := blk_frozen BK116.out 4; have hfz8_5 := blk_frozen BK116.out 5) | ((with_reducible refine gate_callee (f := 23) rfl ?_); refine goesL_ (some 9) rfl rfl Try.func23 (by kernel_rfl) rfl #[.agg #[.string a0_0, .string a0_1, .string a0_2, .string a0_3, .int .i64 a0_4], .agg #[.string a1_0, .string a1_1, .string a1_2, .string a1_3, .int .i64 a1_4]] rfl mp_ ?_; (with_reducible refine (fact_Cmp.calls k a0_0 a0_1 a0_2 a0_3 a0_4 a1_0 a1_1 a1_2 a1_3 a1_4 t117 _ A3.out).mono ?_); rintro e w9 ⟨rfl, hb⟩; refine ⟨_, rfl, ?_⟩; have n0_ := Aside0.mk (blk_below (g := gb115) (o := .cells #[.string a0_0, .string a0_1, .string a0_2, .string a0_3, .int .i64 a0_4, .int .i64 a0_5] 55 (0, 0)) (by (with_reducible repeat (first | refine blk_drewN ?_ _ | refine blk_drew ?_ | refine blk_alloc ?_ _)); exact BK115.out) hb); have n1_ := Aside0.mk (blk_below (g := gb116) (o := .cells #[.string a1_0, .string a1_1, .string a1_2, .string a1_3, .int .i64 a1_4, .int .i64 a1_5] 55 (0, 0)) (by (with_reducible repeat (first | refine blk_drewN ?_ _ | refine blk_drew ?_ | refine blk_alloc ?_ _)); exact BK116.out) hb); have n2_ := Aside0.mk (below_step bx hb); clear BK115; clear BK116; clear HB; have BK115 := n0_; have BK116 := n1_; have HB := n2_; clear n0_ n1_ n2_; (try clear hb); (try clear hb2); (try clear hk); (try clear hi)))
 go_ret
 exact ⟨re_, bx⟩

end Go.Proofs.Ytdckeflggcefbaa.Y
