/- FactOrder holds: plain Lean. -/
import Derived.Test.YtdckeflggcefbaaO10
import Derived.Test.YtdckeflggcefbaaO11
import Derived.Test.YtdckeflggcefbaaO9
namespace Go.Proofs.Ytdckeflggcefbaa.Y
open Go.RowKit Go.Proofs.YtdckeflggcefbaaW.PrintWords Go.Proofs.YtdckeflggcefbaaW.PrintLast Go.Proofs.YtdckeflggcefbaaW.PrintMore
set_option linter.unusedVariables false
set_option linter.unusedSimpArgs false
theorem amt_perm (x : S44) {l l' : List S55} (h : l.Perm l') : amt x l = amt x l' := by
  induction h with
  | nil => rfl
  | cons y _ ih => simp only [amt, ih]
  | swap y z l => simp only [amt]; omega
  | trans _ _ i1 i2 => rw [i1, i2]
theorem abt_small (x : S44) (B : Nat) : ∀ l : List S55, (∀ y ∈ l, y.f1.natAbs ≤ B) → abt x l ≤ l.length * B
  | [], _ => by simp [abt]
  | y :: l, h => by
    have ih := abt_small x B l (fun z hz => h z (by simp [hz]))
    have hy := h y (by simp)
    simp only [abt, List.length_cons, Nat.succ_mul]
    split <;> omega
theorem order_l0 (x0 : List S28) (x7 : Int) : ∀ (n : Nat) (xs : List S28) (i h : Nat), h - i ≤ n → h = xs.length / 2 → xs.length ≤ 1000000 →
    ∃ ys, ys.Perm xs ∧ ∀ r, Ev (fun k => comptrollerlaw09_FactOrder.j2 k x0 x7 ys) r → Ev (fun k => comptrollerlaw09_FactOrder.l0 k x0 x7 xs h i) r
  | n, xs, i, h, hn, hh, hl => by
    by_cases c : i < h
    · cases n with
      | zero => omega
      | succ n =>
        have e1 : (xs.length : Int) - 1 - i = ((xs.length - 1 - i : Nat) : Int) := by omega
        have pm : ((xs.set i (rd_T28 xs ((xs.length - 1 - i : Nat) : Int))).set (xs.length - 1 - i) (rd_T28 xs (i : Int))).Perm xs := by
          have := @List.set_set_perm _ xs i (xs.length - 1 - i) (by omega) (by omega)
          have r1 : rd_T28 xs ((xs.length - 1 - i : Nat) : Int) = xs[xs.length - 1 - i]'(by omega) := by simp [rd_T28, List.getD_eq_getElem?_getD, List.getElem?_eq_getElem (show xs.length - 1 - i < xs.length by omega)]
          have r2 : rd_T28 xs (i : Int) = xs[i]'(by omega) := by simp [rd_T28, List.getD_eq_getElem?_getD, List.getElem?_eq_getElem (show i < xs.length by omega)]
          rw [r1, r2]; exact this
        obtain ⟨ys, p1, p2⟩ := order_l0 x0 x7 n ((xs.set i (rd_T28 xs ((xs.length - 1 - i : Nat) : Int))).set (xs.length - 1 - i) (rd_T28 xs (i : Int))) (i + 1) h (by omega) (by simpa using hh) (by simpa using hl)
        refine ⟨ys, p1.trans pm, fun r hr => Ev.step (p2 r hr) fun k => ?_⟩
        show comptrollerlaw09_FactOrder.l0 (k + 1) _ _ _ _ _ = _
        simp only [comptrollerlaw09_FactOrder.l0]
        rw [if_pos (by omega), w64 (n := (xs.length : Int) - 1) (by omega) (by omega), w64 (n := (xs.length : Int) - 1 - i) (by omega) (by omega), if_pos (by omega), if_pos (by omega), if_pos (by omega), if_pos (by omega), w64 (n := (i : Int) + 1) (by omega) (by omega), e1]
        rfl
    · refine ⟨xs, List.Perm.refl _, fun r hr => Ev.step hr fun k => ?_⟩
      show comptrollerlaw09_FactOrder.l0 (k + 1) _ _ _ _ _ = _
      simp only [comptrollerlaw09_FactOrder.l0]
      rw [if_neg (by omega)]
theorem order_j2 (l ys : List S28) (m : Nat) (hp : ys.Perm l) (hl : l.length ≤ 150) (hm : m ≤ l.length) (hs : ∀ x ∈ l, x.f1.natAbs ≤ 4503599627370496) : Ev (fun k => comptrollerlaw09_FactOrder.j2 k l m ys) true := by
  have hly := hp.length_eq
  have bnd : ∀ t : List S28, (∀ x ∈ t, x ∈ l) → t.length ≤ l.length → ∀ x, abt x (t.map toT) ≤ 4611686018427387904 := fun t ht hlt x => by
    have := abt_small x 4503599627370496 (t.map toT) (fun y hy => by
      obtain ⟨z, hz, rfl⟩ := List.mem_map.1 hy
      exact hs z (ht z hz))
    simp only [List.length_map] at this
    omega
  obtain ⟨a, a1, a2, a3⟩ := Of_ev (l.map toT) (by simp; omega) (bnd l (fun _ h => h) (Nat.le_refl _))
  obtain ⟨b, b1, b2, b3⟩ := Of_ev (ys.map toT) (by simp; omega) (bnd ys (fun _ h => hp.mem_iff.1 h) (by omega))
  obtain ⟨c, c1, c2, c3⟩ := Of_ev ((l.take m).map toT) (by simp; omega) (bnd _ (fun _ h => List.mem_of_mem_take h) (by simp; omega))
  obtain ⟨d, d1, d2, d3⟩ := Of_ev ((l.drop m).map toT) (by simp; omega) (bnd _ (fun _ h => List.mem_of_mem_drop h) (by simp))
  have hcat : (l.take m).map toT ++ (l.drop m).map toT = l.map toT := by rw [← List.map_append, List.take_append_drop]
  obtain ⟨e, e1, e2, e3⟩ := Add_ev c d (by simp at c3 d3; omega) (fun x => by
    have h1 := c2.abt x
    have h2 := d2.abt x
    have h3 := bnd l (fun _ h => h) (Nat.le_refl _) x
    rw [← hcat, abt_app] at h3
    rw [abt_app]; omega)
  have hab : b = a := b2.unique a2 fun x => amt_perm x (hp.map toT)
  have hea : e = a := e2.unique a2 fun x => by rw [amt_app, c2.sum, d2.sum, ← amt_app, hcat]
  subst hab
  subst hea
  have hal : e.length ≤ 150 := by simp at a3; omega
  have ours := Ours_ev e (by omega)
  have same := Same_ev (e.map toO) (by simp; omega)
  have right := Right_ev e (by omega) a2.rise a2.some_
  have m0 : (0 : Int) ≤ (m : Int) := by omega
  have m1 : (m : Int) ≤ (l.length : Int) := by omega
  obtain ⟨k1, h1⟩ := Theirs_ev l (by omega)
  obtain ⟨k2, h2⟩ := a1
  obtain ⟨k3, h3⟩ := Theirs_ev ys (by omega)
  obtain ⟨k4, h4⟩ := b1
  obtain ⟨k5, h5⟩ := Theirs_ev (l.take m) (by simp; omega)
  obtain ⟨k6, h6⟩ := c1
  obtain ⟨k7, h7⟩ := Theirs_ev (l.drop m) (by simp; omega)
  obtain ⟨k8, h8⟩ := d1
  obtain ⟨k9, h9⟩ := e1
  obtain ⟨k10, h10⟩ := ours
  obtain ⟨k11, h11⟩ := same
  obtain ⟨k12, h12⟩ := right
  dsimp only at h1 h2 h3 h4 h5 h6 h7 h8 h9 h10 h11 h12
  refine ⟨k1 + k2 + k3 + k4 + k5 + k6 + k7 + k8 + k9 + k10 + k11 + k12 + 1, fun k hk => ?_⟩
  obtain ⟨k, rfl⟩ : ∃ j, k = j + 1 := ⟨k - 1, by omega⟩
  show comptrollerlaw09_FactOrder.j2 (k + 1) _ _ _ = _
  simp only [comptrollerlaw09_FactOrder.j2]
  rw [h1 k (by omega), Option.bind_some, h2 k (by omega), Option.bind_some, h3 k (by omega), Option.bind_some, h4 k (by omega), Option.bind_some, if_pos m0, if_pos m1, Int.toNat_natCast, h5 k (by omega), Option.bind_some, h6 k (by omega), Option.bind_some, h7 k (by omega), Option.bind_some, h8 k (by omega), Option.bind_some, h9 k (by omega), Option.bind_some]
  simp only [if_true, h10 k (by omega), Option.bind_some, h11 k (by omega), h12 k (by omega)]
theorem order_j0 (l : List S28) (a1 : Int) (a2 : Bool) (h0 : 0 ≤ a1) (h1 : a1 ≤ 255) (hl : l.length ≤ 150) (hs : ∀ x ∈ l, x.f1.natAbs ≤ 4503599627370496) : Ev (fun k => comptrollerlaw09_FactOrder.j0 k l a1 a2 ((l.length : Int) == 0)) true := by
  by_cases c : l.length = 0
  · refine Ev.some fun k => ?_
    simp only [comptrollerlaw09_FactOrder.j0]
    rw [if_pos (by simp [c])]
  · obtain ⟨m, hm⟩ : ∃ m, m = a1.toNat % l.length := ⟨_, rfl⟩
    have hml : m < l.length := by rw [hm]; exact Nat.mod_lt _ (by omega)
    have et : Int.tmod (wrap64 a1) (l.length : Int) = (m : Int) := by
      obtain ⟨n, rfl⟩ := Int.eq_ofNat_of_zero_le h0
      rw [w64 (by omega) (by omega), hm, Int.tmod_eq_emod_of_nonneg h0, Int.toNat_natCast]
      exact (Int.natCast_emod n l.length).symm
    have hp : (l.drop m ++ l.take m).Perm l := (List.perm_append_comm).trans (by rw [List.take_append_drop])
    have hlen : (l.drop m ++ l.take m).length = l.length := hp.length_eq
    have key : Ev (fun k => if a2 = true then comptrollerlaw09_FactOrder.l0 k l m (l.drop m ++ l.take m) (((l.drop m ++ l.take m).length / 2 : Nat) : Int) ((0 : Nat) : Int) else comptrollerlaw09_FactOrder.j2 k l m (l.drop m ++ l.take m)) true := by
      by_cases ca : a2 = true
      · obtain ⟨ys, p1, p2⟩ := order_l0 l m _ (l.drop m ++ l.take m) 0 ((l.drop m ++ l.take m).length / 2) (Nat.le_refl _) rfl (by omega)
        simp only [if_pos ca]
        exact p2 true (order_j2 l ys m (p1.trans hp) hl (by omega) hs)
      · simp only [if_neg ca]
        exact order_j2 l _ m hp hl (by omega) hs
    refine Ev.step key fun k => ?_
    show comptrollerlaw09_FactOrder.j0 (k + 1) _ _ _ _ = _
    simp only [comptrollerlaw09_FactOrder.j0]
    have b1 : ¬ (((l.length : Int) == 0) = true) := fun e => c (by have := beq_iff_eq.1 e; omega)
    have b2 : ¬ ((l.length : Int) = 0) := by omega
    have b3 : (0 : Int) ≤ (m : Int) := by omega
    have b4 : (m : Int) ≤ (l.length : Int) := by omega
    have b5 : ([] : List S28).length + (l.drop m).length < 1759218604441 := by simp; omega
    have b6 : (([] : List S28) ++ l.drop m).length + (l.take m).length < 1759218604441 := by simp; omega
    rw [if_neg b1, if_neg b2, et, if_pos b3, if_pos b4, Int.toNat_natCast, Option.bind_some, if_pos b5, Option.bind_some, Option.bind_some, if_pos b6, Option.bind_some, List.nil_append, w64 (n := ((l.drop m ++ l.take m).length : Int) / 2) (by omega) (by omega)]
    rfl
/-- FactOrder says true. -/
theorem order_law (l : List S28) (a1 : Int) (a2 : Bool) (h0 : 0 ≤ a1) (h1 : a1 ≤ 255) (hl : l.length ≤ 9223372036854775807) : Ev (fun k => comptrollerlaw09_FactOrder.f k l a1 a2) true := by
  have out : ∀ k, comptrollerlaw09_FactOrder.j0 (k + 1) l a1 a2 true = some true := fun k => by
    simp [comptrollerlaw09_FactOrder.j0]
  obtain ⟨b, f1, f2⟩ := Few_ev l hl
  obtain ⟨c, s1, s2⟩ := Small_ev l hl
  unfold comptrollerlaw09_FactOrder.f
  refine Ev.bind (g := fun k t => if t = true then (comptrollerlaw09_Few.f k l).bind fun t438 => (if t438 = true then ((comptrollerlaw09_small.f k l).bind fun t439 => (if t439 = true then (comptrollerlaw09_FactOrder.j0 k l a1 a2 ((l.length : Int) == 0)) else (comptrollerlaw09_FactOrder.j0 k l a1 a2 true))) else (comptrollerlaw09_FactOrder.j0 k l a1 a2 true)) else some false) alive_ev ?_
  simp only [if_true]
  refine Ev.bind (g := fun k t438 => (if t438 = true then ((comptrollerlaw09_small.f k l).bind fun t439 => (if t439 = true then (comptrollerlaw09_FactOrder.j0 k l a1 a2 ((l.length : Int) == 0)) else (comptrollerlaw09_FactOrder.j0 k l a1 a2 true))) else (comptrollerlaw09_FactOrder.j0 k l a1 a2 true))) f1 ?_
  by_cases hb : b = true
  · simp only [if_pos hb]
    refine Ev.bind (g := fun k t439 => (if t439 = true then (comptrollerlaw09_FactOrder.j0 k l a1 a2 ((l.length : Int) == 0)) else (comptrollerlaw09_FactOrder.j0 k l a1 a2 true))) s1 ?_
    by_cases hc : c = true
    · simp only [if_pos hc]
      exact order_j0 l a1 a2 h0 h1 (f2 hb) (s2 hc)
    · simp only [if_neg hc]
      exact Ev.some out
  · simp only [if_neg hb]
    exact Ev.some out
end Go.Proofs.Ytdckeflggcefbaa.Y
