/- Picks, single amounts and rightness of a cube: the reference's answers and the program's are one. Plain Lean. What Few and small say. Plain Lean. A cube has of each key, of each entity and of all the sums of the facts that it was made of. Plain Lean. alive: the answers that the document fixes are given. Plain Lean. What a slice of facts and a key, as they come in, hold: lists and structs of plain Lean. What a slice of facts, as it comes in, holds, and that its texts are no longer than a text can be. FactGets says true: the walk and the plain law joined. No conditions. -/
import Derived.KernelRfl
import Derived.WalkKit
import Derived.ProofKit
import Derived.OpenShut
import Derived.ShutString
import Derived.ChangeOld
import Derived.Below
import Derived.SizedLaws
import Derived.Deep.Slices
import Derived.Test.YtdckeflggcefbaaG1
import Derived.Test.YtdckeflggcefbaaG10
import Derived.Test.YtdckeflggcefbaaG11
import Derived.Test.YtdckeflggcefbaaG9
namespace Go.Proofs.Ytdckeflggcefbaa.Y
open Go.RowKit Go.Proofs.YtdckeflggcefbaaW.PrintWords Go.Proofs.YtdckeflggcefbaaW.PrintLast Go.Proofs.YtdckeflggcefbaaW.PrintMore
set_option linter.unusedVariables false
set_option linter.unusedSimpArgs false
def pickB (a : ByteArray) (m : Int) (k : S24) : Bool := anyB a k.f0 && (decide (m < 0) || k.f4 == m)
theorem pick_cons (a : ByteArray) (m : Int) (x : S28) (l : List S28) : (x :: l).filter (fun x => pickB a m x.f0) = if pickB a m x.f0 = true then x :: l.filter (fun x => pickB a m x.f0) else l.filter (fun x => pickB a m x.f0) := by
  by_cases h : pickB a m x.f0 = true
  · rw [if_pos h, List.filter_cons_of_pos (p := fun x : S28 => pickB a m x.f0) (a := x) h]
  · rw [if_neg h, List.filter_cons_of_neg (p := fun x : S28 => pickB a m x.f0) (a := x) h]
theorem pick_step {α : Type} (A M K : Prop) [Decidable A] [Decidable M] [Decidable K] (e : Bool) (t : Bool) (hA : A ↔ e = true) (hK : K ↔ t = true) (X Y : α) :
    (if A then (if M then X else if K then X else Y) else Y) = if (e && (decide M || t)) = true then X else Y := by
  by_cases h1 : A <;> by_cases h2 : M <;> by_cases h3 : K <;> simp only [h1, h2, h3, if_true, if_false] <;> simp_all
theorem pick_ev (a : ByteArray) (m : Int) : ∀ (R P : List S28) (acc : List S28), (P ++ R).length ≤ 1000000 → acc.length + R.length ≤ 1000000 →
    Ev (fun k => fact_Pick.l0 k a m (acc.map toT) ((P ++ R).map toT) (P ++ R).length P.length) ((acc ++ R.filter fun x => pickB a m x.f0).map toT)
  | [], P, acc, h, h2 => by
    refine Ev.some fun k => ?_
    simp only [fact_Pick.l0]
    rw [if_neg (by simp)]
    simp
  | x :: R, P, acc, h, h2 => by
    have hl : (P ++ x :: R).length = P.length + R.length + 1 := by simp; omega
    simp only [List.length_cons] at h2
    have ih := fun g m' => pick_ev a m R (P ++ [x]) g (by simp at h ⊢; omega) m'
    simp only [List.append_assoc, List.singleton_append] at ih
    have rx : rd_T55 ((P ++ x :: R).map toT) (P.length : Int) = toT x := by
      rw [List.map_append, List.map_cons]; exact rd_app _ _ _ _ (by simp)
    have hw : wrap64 ((P.length : Int) + 1) = (((P ++ [x]).length : Nat) : Int) := by rw [hl] at h; rw [w64 (by omega) (by omega)]; simp
    have st : ∀ k, fact_Pick.l0 (k + 1) a m (acc.map toT) ((P ++ x :: R).map toT) (P ++ x :: R).length P.length = if pickB a m x.f0 = true then fact_Pick.l0 k a m ((acc ++ [x]).map toT) ((P ++ x :: R).map toT) (P ++ x :: R).length ((P ++ [x]).length : Nat) else fact_Pick.l0 k a m (acc.map toT) ((P ++ x :: R).map toT) (P ++ x :: R).length ((P ++ [x]).length : Nat) := fun k => by
      simp only [fact_Pick.l0]
      have b1 : (acc.map toT).length < 1759218604441 := by simp; omega
      rw [if_pos (by omega), if_pos (by omega), if_pos (by simp; omega), rx]
      simp only [any_f, Option.bind_some, if_pos b1, hw]
      have e1 : (acc ++ [x]).map toT = acc.map toT ++ [toT x] := by simp
      rw [e1]
      exact pick_step _ _ _ _ _ Iff.rfl (by rw [beq_iff_eq]; exact Iff.rfl) _ _
    rw [pick_cons]
    by_cases ca : pickB a m x.f0 = true
    · rw [if_pos ca]
      have := ih (acc ++ [x]) (by simp; omega)
      refine Ev.step (g := fun k => fact_Pick.l0 k a m ((acc ++ [x]).map toT) ((P ++ x :: R).map toT) (P ++ x :: R).length ((P ++ [x]).length : Nat)) ?_ fun k => by rw [st, if_pos ca]
      simpa using this
    · rw [if_neg ca]
      exact Ev.step (ih acc (by omega)) fun k => by rw [st, if_neg ca]
theorem Pick_ev (a : ByteArray) (m : Int) (l : List S28) (h : l.length ≤ 1000000) : Ev (fun k => fact_Pick.f k (l.map toT) a m) ((l.filter fun x => pickB a m x.f0).map toT) := by
  have := pick_ev a m l [] [] (by simpa using h) (by simpa using h)
  simpa [fact_Pick.f] using this
theorem rpick_step {α : Type} (E A M K : Prop) [Decidable E] [Decidable A] [Decidable M] [Decidable K] (e t : Bool) (hA : A ↔ e = true) (hK : K ↔ t = true) (X Y : α) :
    (if E then (if M then X else if K then X else Y) else (if A then (if M then X else if K then X else Y) else Y)) = if ((if E then true else e) && (decide M || t)) = true then X else Y := by
  by_cases h0 : E <;> by_cases h1 : A <;> by_cases h2 : M <;> by_cases h3 : K <;> simp only [h0, h1, h2, h3, if_true, if_false] <;> simp_all
theorem rpick_ev (a : ByteArray) (m : Int) : ∀ (R P : List S28) (acc : List S28), (P ++ R).length ≤ 1000000 → acc.length + R.length ≤ 1000000 →
    Ev (fun k => comptrollerref09_Pick.l0 k (P ++ R) a m acc P.length) (acc ++ R.filter fun x => pickB a m x.f0)
  | [], P, acc, h, h2 => by
    refine Ev.some fun k => ?_
    simp only [comptrollerref09_Pick.l0]
    rw [if_neg (by simp)]
    simp
  | x :: R, P, acc, h, h2 => by
    have hl : (P ++ x :: R).length = P.length + R.length + 1 := by simp; omega
    simp only [List.length_cons] at h2
    have ih := fun g m' => rpick_ev a m R (P ++ [x]) g (by simp at h ⊢; omega) m'
    simp only [List.append_assoc, List.singleton_append] at ih
    have hw : wrap64 ((P.length : Int) + 1) = (((P ++ [x]).length : Nat) : Int) := by rw [hl] at h; rw [w64 (by omega) (by omega)]; simp
    have st : ∀ k, comptrollerref09_Pick.l0 (k + 1) (P ++ x :: R) a m acc P.length = if pickB a m x.f0 = true then comptrollerref09_Pick.l0 k (P ++ x :: R) a m (acc ++ [x]) ((P ++ [x]).length : Nat) else comptrollerref09_Pick.l0 k (P ++ x :: R) a m acc ((P ++ [x]).length : Nat) := fun k => by
      simp only [comptrollerref09_Pick.l0]
      have b1 : acc.length < 1759218604441 := by omega
      have b2 : (0 : Int) ≤ (P.length : Int) := by omega
      rw [if_pos (by omega), rd28_app P R x _ rfl]
      simp only [if_pos b1, if_pos b2, hw]
      exact rpick_step _ _ _ _ _ _ (by rw [beq_iff_eq]; exact eq_comm) (by rw [beq_iff_eq]) _ _
    rw [pick_cons]
    by_cases ca : pickB a m x.f0 = true
    · rw [if_pos ca]
      have := ih (acc ++ [x]) (by simp; omega)
      refine Ev.step (g := fun k => comptrollerref09_Pick.l0 k (P ++ x :: R) a m (acc ++ [x]) ((P ++ [x]).length : Nat)) ?_ fun k => by rw [st, if_pos ca]
      simpa using this
    · rw [if_neg ca]
      exact Ev.step (ih acc (by omega)) fun k => by rw [st, if_neg ca]
theorem RefPick_ev (a : ByteArray) (m : Int) (l : List S28) (h : l.length ≤ 1000000) : Ev (fun k => comptrollerref09_Pick.f k l a m) (l.filter fun x => pickB a m x.f0) := by
  have := rpick_ev a m l [] [] (by simpa using h) (by simpa using h)
  simpa [comptrollerref09_Pick.f] using this
/-- A key's amount, by looking from the front. -/
theorem rget_ev (q : S24) : ∀ (R P : List S28), (P ++ R).length ≤ 1000000 → Rise (R.map toT) → Ev (fun k => comptrollerref09_Get.l0 k (P ++ R) P.length q.f0 q.f1 q.f2 q.f3 q.f4) (amt (tk q) (R.map toT))
  | [], P, h, hr => by
    refine Ev.some fun k => ?_
    simp only [comptrollerref09_Get.l0]
    rw [if_neg (by simp)]
    rfl
  | x :: R, P, h, hr => by
    have hl : (P ++ x :: R).length = P.length + R.length + 1 := by simp; omega
    have hw : wrap64 ((P.length : Int) + 1) = (((P ++ [x]).length : Nat) : Int) := by rw [hl] at h; rw [w64 (by omega) (by omega)]; simp
    have st : ∀ k, comptrollerref09_Get.l0 (k + 1) (P ++ x :: R) P.length q.f0 q.f1 q.f2 q.f3 q.f4 = if (cmpK (tk q) (tk x.f0) == 0) = true then some x.f1 else comptrollerref09_Get.l0 k (P ++ x :: R) ((P ++ [x]).length : Nat) q.f0 q.f1 q.f2 q.f3 q.f4 := fun k => by
      simp only [comptrollerref09_Get.l0]
      rw [if_pos (by omega), if_pos (by omega), rd28_app P R x _ rfl, hw, key_test]
    by_cases c : (cmpK (tk q) (tk x.f0) == 0) = true
    · have e := (cmpK_zero _ _).1 (beq_iff_eq.1 c)
      have := Rise.head (y := toT x) (l := R.map toT) hr
      refine Ev.some fun k => ?_
      rw [st, if_pos c, e]
      exact congrArg some this.symm
    · have ih := rget_ev q R (P ++ [x]) (by simp at h ⊢; omega) (List.pairwise_cons.1 hr).2
      have e : amt (tk q) ((x :: R).map toT) = amt (tk q) (R.map toT) := by
        simp only [List.map_cons, amt]
        rw [if_neg (show ¬ cmpK (tk q) (toT x).f0 = 0 from fun h => c (beq_iff_eq.2 h))]
        omega
      rw [e]
      simp only [List.append_assoc, List.singleton_append] at ih
      exact Ev.step ih fun k => by rw [st, if_neg c]
theorem RefGet_ev (q : S24) (l : List S28) (h : l.length ≤ 1000000) (hr : Rise (l.map toT)) : Ev (fun k => comptrollerref09_Get.f k l q.f0 q.f1 q.f2 q.f3 q.f4) (amt (tk q) (l.map toT)) := by
  have := rget_ev q l [] (by simpa using h) hr
  simpa [comptrollerref09_Get.f] using this
theorem rd55_get (l : List S55) (i : Nat) (h : i < l.length) : rd_T55 l (i : Int) = l[i] := by
  simp [rd_T55, List.getD_eq_getElem?_getD, List.getElem?_eq_getElem h]
theorem get1_ev (x : S55) (q : S44) : Ev (fun k => fact_Get_1.f k x.f0.f0 x.f0.f1 x.f0.f2 x.f0.f3 x.f0.f4 x.f1 q.f0 q.f1 q.f2 q.f3 q.f4) (cmpK x.f0 q) := by
  simp only [fact_Get_1.f]
  exact Ev.bind (g := fun _ t => some t) (cmp_ev x.f0 q) (Ev.const fun _ => rfl)
/-- The library's binary search: the first that is not below the key. -/
theorem key_ev (q : S44) (l : List S55) (hl : l.length ≤ 1000000) (hr : Rise l) : ∀ (n i j : Nat), j - i ≤ n → i ≤ j → j ≤ l.length → (∀ t (h : t < l.length), t < i → cmpK l[t].f0 q < 0) → (∀ t (h : t < l.length), j ≤ t → ¬ cmpK l[t].f0 q < 0) →
    ∃ p : Nat, p ≤ l.length ∧ (∀ t (h : t < l.length), t < p → cmpK l[t].f0 q < 0) ∧ (∀ t (h : t < l.length), p ≤ t → ¬ cmpK l[t].f0 q < 0) ∧
      Ev (fun k => fact_Key.l0 k l l.length i j q.f0 q.f1 q.f2 q.f3 q.f4) ((p : Int), if h : p < l.length then decide (cmpK l[p].f0 q = 0) else false)
  | n, i, j, hn, hij, hj, h1, h2 => by
    by_cases c : i < j
    · cases n with
      | zero => omega
      | succ n =>
        obtain ⟨m, hm⟩ : ∃ m, m = (i + j) / 2 := ⟨_, rfl⟩
        have e : wrap64 ((IntKind.u64.wrap (wrap64 ((i : Int) + j))) / 2) = (m : Int) := by
          rw [w64 (n := (i : Int) + j) (by omega) (by omega), wu64 (by omega) (by omega), w64 (by omega) (by omega)]; omega
        have hml : m < l.length := by omega
        by_cases cc : cmpK l[m].f0 q < 0
        · obtain ⟨p, p1, p2, p3, p4⟩ := key_ev q l hl hr n (m + 1) j (by omega) (by omega) hj (fun t h ht => by
            by_cases e : t = m
            · subst e; exact cc
            · have h5 : cmpS l[t] l[m] < 0 := List.pairwise_iff_getElem.1 hr t m h hml (by omega)
              exact ltK h5 cc) h2
          refine ⟨p, p1, p2, p3, ?_⟩
          refine Ev.step (Ev.bind (g := fun k t => if t < 0 then (fact_Key.l0 k l l.length ((m + 1 : Nat) : Int) j q.f0 q.f1 q.f2 q.f3 q.f4) else (fact_Key.l0 k l l.length i m q.f0 q.f1 q.f2 q.f3 q.f4)) (get1_ev l[m] q) ?_) fun k => ?_
          · simp only [if_pos cc]; exact p4
          · show fact_Key.l0 (k + 1) _ _ _ _ _ _ _ _ _ = _
            simp only [fact_Key.l0]
            rw [if_pos (by omega), e, if_pos (by omega), if_pos (by omega), rd55_get l m hml, w64 (n := (m : Int) + 1) (by omega) (by omega)]
            rfl
        · obtain ⟨p, p1, p2, p3, p4⟩ := key_ev q l hl hr n i m (by omega) (by omega) (by omega) h1 (fun t h ht => by
            by_cases e : t = m
            · subst e; exact cc
            · intro h6
              have h5 : cmpS l[m] l[t] < 0 := List.pairwise_iff_getElem.1 hr m t hml h (by omega)
              exact cc (ltK h5 h6))
          refine ⟨p, p1, p2, p3, ?_⟩
          refine Ev.step (Ev.bind (g := fun k t => if t < 0 then (fact_Key.l0 k l l.length ((m + 1 : Nat) : Int) j q.f0 q.f1 q.f2 q.f3 q.f4) else (fact_Key.l0 k l l.length i m q.f0 q.f1 q.f2 q.f3 q.f4)) (get1_ev l[m] q) ?_) fun k => ?_
          · simp only [if_neg cc]; exact p4
          · show fact_Key.l0 (k + 1) _ _ _ _ _ _ _ _ _ = _
            simp only [fact_Key.l0]
            rw [if_pos (by omega), e, if_pos (by omega), if_pos (by omega), rd55_get l m hml, w64 (n := (m : Int) + 1) (by omega) (by omega)]
            rfl
    · obtain rfl : i = j := by omega
      refine ⟨i, hj, h1, h2, ?_⟩
      by_cases ci : i < l.length
      · rw [dif_pos ci]
        refine Ev.step (Ev.bind (g := fun k t => some ((i : Int), (t == 0))) (get1_ev l[i] q) (Ev.const fun k => ?_)) fun k => ?_
        · rfl
        · show fact_Key.l0 (k + 1) _ _ _ _ _ _ _ _ _ = _
          simp only [fact_Key.l0]
          rw [if_neg (by omega), if_pos (by omega), if_pos (by omega), if_pos (by omega), rd55_get l i ci]
      · rw [dif_neg ci]
        refine Ev.some fun k => ?_
        simp only [fact_Key.l0]
        rw [if_neg (by omega), if_neg (by omega)]
theorem Get_ev (q : S44) (l : List S55) (h : l.length ≤ 1000000) (hr : Rise l) : Ev (fun k => fact_Get.f k l q.f0 q.f1 q.f2 q.f3 q.f4) (amt q l) := by
  obtain ⟨p, p1, p2, p3, p4⟩ := key_ev q l h hr l.length 0 l.length (by omega) (by omega) (Nat.le_refl _) (fun t h ht => by omega) (fun t h ht => by omega)
  have hsp : l = l.take p ++ l.drop p := (List.take_append_drop p l).symm
  have low : amt q (l.take p) = 0 := amt_none _ _ fun y hy e => by
    obtain ⟨t, ht, rfl⟩ := List.getElem_of_mem hy
    simp only [List.length_take] at ht
    rw [List.getElem_take] at e
    have h5 := p2 t (by omega) (by omega)
    have := cmpK_good.anti l[t].f0 q
    omega
  have e1 : amt q l = amt q (l.drop p) := by
    have := amt_app q (l.take p) (l.drop p)
    rw [← hsp, low] at this
    omega
  unfold fact_Get.f fact_Key.f
  refine Ev.bind (g := fun k bt => (if bt.2 = true then (if 0 ≤ bt.1 then (if bt.1 < (l.length : Int) then (some ((rd_T55 l bt.1).f1)) else (none)) else (none)) else (some 0))) p4 (Ev.const fun k => ?_)
  by_cases c : p < l.length
  · simp only [dif_pos c]
    have hd : l.drop p = l[p] :: l.drop (p + 1) := List.drop_eq_getElem_cons c
    have hrd : Rise (l[p] :: l.drop (p + 1)) := by rw [← hd]; rw [hsp] at hr; exact (List.pairwise_append.1 hr).2.1
    by_cases z : cmpK l[p].f0 q = 0
    · rw [if_pos (by simpa using z), if_pos (by omega), if_pos (by omega), rd55_get l p c, e1, hd]
      have ez := (cmpK_zero _ _).1 z
      rw [← ez]
      exact congrArg some hrd.head.symm
    · rw [if_neg (by simpa using z), e1, hd]
      have h5 := p3 p c (Nat.le_refl _)
      have := cmpK_good.anti l[p].f0 q
      rw [hrd.below (x := q) (by omega)]
  · simp only [dif_neg c]
    rw [if_neg (by simp), e1, List.drop_eq_nil_of_le (by omega)]
    rfl
theorem rise_cons (x : S55) : ∀ (R : List S55), (∀ y ∈ R.head?, cmpS x y < 0) → Rise R → Rise (x :: R)
  | [], _, _ => List.pairwise_singleton _ _
  | y :: R, h, hr => by
    have h1 : cmpS x y < 0 := h y (by simp)
    refine List.pairwise_cons.2 ⟨fun z hz => ?_, hr⟩
    rcases List.mem_cons.1 hz with rfl | hz
    · exact h1
    · exact lt_le h1 (Int.le_of_lt ((List.pairwise_cons.1 hr).1 z hz))
theorem rright_ev : ∀ (R P : List S28), (P ++ R).length ≤ 1000000 → ∃ b, Ev (fun k => comptrollerref09_Right.l0 k (P ++ R) P.length) b ∧ (b = true → (∀ z ∈ P.getLast?, ∀ x ∈ R.head?, cmpK (tk z.f0) (tk x.f0) < 0) ∧ Rise (R.map toT))
  | [], P, h => by
    refine ⟨_, Ev.some (r := decide (((P ++ []).length : Int) ≤ 2000)) fun k => ?_, fun _ => ⟨by simp, List.Pairwise.nil⟩⟩
    simp only [comptrollerref09_Right.l0]
    rw [if_neg (by simp)]
  | x :: R, P, h => by
    have hl : (P ++ x :: R).length = P.length + R.length + 1 := by simp; omega
    obtain ⟨b, ih, ih2⟩ := rright_ev R (P ++ [x]) (by simp at h ⊢; omega)
    simp only [List.append_assoc, List.singleton_append] at ih
    have hw : wrap64 ((P.length : Int) + 1) = (((P ++ [x]).length : Nat) : Int) := by rw [hl] at h; rw [w64 (by omega) (by omega)]; simp
    have rx := rd28_app P R x (P.length : Int) rfl
    have fin : b = true → Rise ((x :: R).map toT) := fun e => by
      obtain ⟨i1, i2⟩ := ih2 e
      refine rise_cons (toT x) (R.map toT) (fun y hy => ?_) i2
      cases R with
      | nil => simp at hy
      | cons z R =>
        obtain rfl : toT z = y := by simpa using hy
        exact i1 x (by simp) z (by simp)
    by_cases h0 : x.f1 = 0
    · refine ⟨false, Ev.some fun k => ?_, fun e => by cases e⟩
      simp only [comptrollerref09_Right.l0]
      rw [if_pos (by omega), if_pos (by omega), rx, if_pos h0]
    by_cases hp : P.length = 0
    · obtain rfl := List.length_eq_zero_iff.1 hp
      refine ⟨b, Ev.step ih fun k => ?_, fun e => ⟨by simp, fin e⟩⟩
      show comptrollerref09_Right.l0 (k + 1) _ _ = _
      simp only [comptrollerref09_Right.l0]
      rw [if_pos (by omega), if_pos (by omega), rx, if_neg h0, if_neg (by simp), hw]
    · obtain ⟨P', z, rfl⟩ : ∃ P' z, P = P' ++ [z] := ⟨P.dropLast, P.getLast (by intro e; simp [e] at hp), (List.dropLast_concat_getLast _).symm⟩
      have rz : rd_T28 ((P' ++ [z]) ++ x :: R) (((P' ++ [z]).length : Int) - 1) = z := by
        rw [show (P' ++ [z]) ++ x :: R = P' ++ z :: (x :: R) by simp]; exact rd28_app _ _ _ _ (by simp)
      have hm : wrap64 (((P' ++ [z]).length : Int) - 1) = ((P' ++ [z]).length : Int) - 1 := w64 (by omega) (by omega)
      have st : ∀ k, comptrollerref09_Right.l0 (k + 1) ((P' ++ [z]) ++ x :: R) ((P' ++ [z]).length : Nat) = (comptrollerref09_Cmp.f k (tk z.f0).f0 (tk z.f0).f1 (tk z.f0).f2 (tk z.f0).f3 (tk z.f0).f4 (tk x.f0).f0 (tk x.f0).f1 (tk x.f0).f2 (tk x.f0).f3 (tk x.f0).f4).bind fun t => if t ≥ 0 then some false else comptrollerref09_Right.l0 k ((P' ++ [z]) ++ x :: R) (((P' ++ [z]) ++ [x]).length : Nat) := fun k => by
        simp only [comptrollerref09_Right.l0]
        rw [if_pos (by omega), if_pos (by omega), rx, if_neg h0, if_pos (by omega), hm, if_pos (by omega), if_pos (by omega), rz, hw]
        rfl
      by_cases c : cmpK (tk z.f0) (tk x.f0) ≥ 0
      · refine ⟨false, Ev.step (Ev.bind (g := fun k t => if t ≥ 0 then some false else comptrollerref09_Right.l0 k ((P' ++ [z]) ++ x :: R) (((P' ++ [z]) ++ [x]).length : Nat)) (refCmp_ev (tk z.f0) (tk x.f0)) (Ev.const fun k => if_pos c)) st, fun e => by cases e⟩
      · refine ⟨b, Ev.step (Ev.bind (g := fun k t => if t ≥ 0 then some false else comptrollerref09_Right.l0 k ((P' ++ [z]) ++ x :: R) (((P' ++ [z]) ++ [x]).length : Nat)) (refCmp_ev (tk z.f0) (tk x.f0)) (ih.eq fun k => by rw [if_neg c])) st, fun e => ⟨fun z' hz' x' hx' => ?_, fin e⟩⟩
        simp at hz' hx'
        subst hz' hx'
        omega
theorem RefRight_ev (l : List S28) (h : l.length ≤ 1000000) : ∃ b, Ev (fun k => comptrollerref09_Right.f k l) b ∧ (b = true → Rise (l.map toT)) := by
  obtain ⟨b, h1, h2⟩ := rright_ev l [] (by simpa using h)
  exact ⟨b, by simpa [comptrollerref09_Right.f] using h1, fun e => (h2 e).2⟩
theorem few_ev : ∀ (R P : List S28), (P ++ R).length ≤ 9223372036854775807 → ∃ b, Ev (fun k => comptrollerlaw09_Few.l0 k (P ++ R) (P ++ R) (P ++ R).length P.length) b ∧ (b = true → (P ++ R).length ≤ 150)
  | [], P, h => by
    refine ⟨decide (((P ++ []).length : Int) ≤ 150), Ev.some fun k => ?_, fun hb => by have := of_decide_eq_true hb; omega⟩
    simp only [comptrollerlaw09_Few.l0]
    rw [if_neg (by simp)]
  | x :: R, P, h => by
    have hl : (P ++ x :: R).length = P.length + R.length + 1 := by simp; omega
    obtain ⟨b, hb, hb2⟩ := few_ev R (P ++ [x]) (by simp at h ⊢; omega)
    have st : ∀ k, comptrollerlaw09_Few.l0 (k + 1) (P ++ x :: R) (P ++ x :: R) (P ++ x :: R).length P.length = if (x.f0.f0.size : Int) > 40 then some false else if (x.f0.f1.size : Int) > 40 then some false else if (x.f0.f2.size : Int) > 40 then some false else if (x.f0.f3.size : Int) > 40 then some false else comptrollerlaw09_Few.l0 k (P ++ x :: R) (P ++ x :: R) (P ++ x :: R).length ((P ++ [x]).length : Nat) := fun k => by
      simp only [comptrollerlaw09_Few.l0]
      rw [hl] at h ⊢
      rw [if_pos (by omega), if_pos (by omega), if_pos (by omega), rd28_app P R x _ rfl, w64 (n := (P.length : Int) + 1) (by omega) (by omega), show ((P ++ [x]).length : Int) = (P.length : Int) + 1 by simp]
    by_cases c : (x.f0.f0.size : Int) > 40 ∨ (x.f0.f1.size : Int) > 40 ∨ (x.f0.f2.size : Int) > 40 ∨ (x.f0.f3.size : Int) > 40
    · refine ⟨false, Ev.some fun k => ?_, fun e => by cases e⟩
      rw [st]
      by_cases c1 : (x.f0.f0.size : Int) > 40
      · rw [if_pos c1]
      rw [if_neg c1]
      by_cases c2 : (x.f0.f1.size : Int) > 40
      · rw [if_pos c2]
      rw [if_neg c2]
      by_cases c3 : (x.f0.f2.size : Int) > 40
      · rw [if_pos c3]
      rw [if_neg c3, if_pos (by omega)]
    · refine ⟨b, Ev.step (g := fun k => comptrollerlaw09_Few.l0 k (P ++ x :: R) (P ++ x :: R) (P ++ x :: R).length ((P ++ [x]).length : Nat)) (by simpa using hb) fun k => ?_, fun e => by simpa using hb2 e⟩
      show comptrollerlaw09_Few.l0 (k + 1) _ _ _ _ = _
      rw [st, if_neg (by omega), if_neg (by omega), if_neg (by omega), if_neg (by omega)]
theorem Few_ev (l : List S28) (h : l.length ≤ 9223372036854775807) : ∃ b, Ev (fun k => comptrollerlaw09_Few.f k l) b ∧ (b = true → l.length ≤ 150) := by
  simpa [comptrollerlaw09_Few.f] using few_ev l [] (by simpa using h)
theorem small_ev : ∀ (R P : List S28), (P ++ R).length ≤ 9223372036854775807 → ∃ b, Ev (fun k => comptrollerlaw09_small.l0 k (P ++ R) (P ++ R).length P.length) b ∧ (b = true → ∀ x ∈ R, x.f1.natAbs ≤ 4503599627370496)
  | [], P, h => by
    refine ⟨true, Ev.some fun k => ?_, fun hb => by simp⟩
    simp only [comptrollerlaw09_small.l0]
    rw [if_neg (by simp)]
  | x :: R, P, h => by
    have hl : (P ++ x :: R).length = P.length + R.length + 1 := by simp; omega
    obtain ⟨b, hb, hb2⟩ := small_ev R (P ++ [x]) (by simp at h ⊢; omega)
    have st : ∀ k, comptrollerlaw09_small.l0 (k + 1) (P ++ x :: R) (P ++ x :: R).length P.length = if x.f1 > 4503599627370496 then some false else if x.f1 < (-4503599627370496) then some false else comptrollerlaw09_small.l0 k (P ++ x :: R) (P ++ x :: R).length ((P ++ [x]).length : Nat) := fun k => by
      simp only [comptrollerlaw09_small.l0]
      rw [hl] at h ⊢
      rw [if_pos (by omega), if_pos (by omega), if_pos (by omega), rd28_app P R x _ rfl, w64 (n := (P.length : Int) + 1) (by omega) (by omega), show ((P ++ [x]).length : Int) = (P.length : Int) + 1 by simp]
    by_cases c1 : x.f1 > 4503599627370496
    · exact ⟨false, Ev.some fun k => by rw [st, if_pos c1], fun e => by cases e⟩
    by_cases c2 : x.f1 < (-4503599627370496)
    · exact ⟨false, Ev.some fun k => by rw [st, if_neg c1, if_pos c2], fun e => by cases e⟩
    refine ⟨b, Ev.step (g := fun k => comptrollerlaw09_small.l0 k (P ++ x :: R) (P ++ x :: R).length ((P ++ [x]).length : Nat)) (by simpa using hb) fun k => ?_, fun e y hy => ?_⟩
    · show comptrollerlaw09_small.l0 (k + 1) _ _ _ = _
      rw [st, if_neg c1, if_neg c2]
    · rcases List.mem_cons.1 hy with rfl | hy
      · omega
      · exact hb2 e y hy
theorem Small_ev (l : List S28) (h : l.length ≤ 9223372036854775807) : ∃ b, Ev (fun k => comptrollerlaw09_small.f k l) b ∧ (b = true → ∀ x ∈ l, x.f1.natAbs ≤ 4503599627370496) := by
  simpa [comptrollerlaw09_small.f] using small_ev l [] (by simpa using h)
/-- The sum of the facts whose keys meet p; the sum of all sizes. -/
def psum (p : S44 → Bool) : List S55 → Int
  | [] => 0
  | x :: l => (if p x.f0 = true then x.f1 else 0) + psum p l
def aabs : List S55 → Nat
  | [] => 0
  | x :: l => x.f1.natAbs + aabs l
def rest (k : S44) (l : List S55) : List S55 := l.filter fun y => !(cmpK k y.f0 == 0)
theorem rest_cons (k : S44) (y : S55) (l : List S55) : rest k (y :: l) = if cmpK k y.f0 = 0 then rest k l else y :: rest k l := by
  unfold rest
  by_cases h : cmpK k y.f0 = 0
  · rw [if_pos h, List.filter_cons_of_neg (by simp [h])]
  · rw [if_neg h, List.filter_cons_of_pos (by simp [h])]
theorem psum_rest (p : S44 → Bool) (k : S44) : ∀ l : List S55, psum p l = (if p k = true then amt k l else 0) + psum p (rest k l)
  | [] => by simp [psum, amt, rest]
  | y :: l => by
    have ih := psum_rest p k l
    rw [rest_cons]
    by_cases h : cmpK k y.f0 = 0
    · have e := (cmpK_zero _ _).1 h
      rw [if_pos h]
      simp only [psum, amt, if_pos h, ih]
      rw [e]
      split <;> omega
    · rw [if_neg h]
      simp only [psum, amt, if_neg h, ih]
      split <;> split <;> omega
theorem aabs_rest (k : S44) : ∀ l : List S55, aabs l = abt k l + aabs (rest k l)
  | [] => by simp [aabs, abt, rest]
  | y :: l => by
    have ih := aabs_rest k l
    rw [rest_cons]
    by_cases h : cmpK k y.f0 = 0
    · rw [if_pos h]
      simp only [aabs, abt, if_pos h, ih]; omega
    · rw [if_neg h]
      simp only [aabs, abt, if_neg h, ih]; omega
theorem rest_len (k : S44) (y : S55) (l : List S55) (h : cmpK k y.f0 = 0) : (rest k (y :: l)).length ≤ l.length := by
  rw [rest_cons, if_pos h]
  exact List.length_filter_le _ _
theorem amt_rest (k q : S44) : ∀ l : List S55, amt q (rest k l) = if cmpK k q = 0 then 0 else amt q l
  | [] => by simp [amt, rest]
  | y :: l => by
    have ih := amt_rest k q l
    rw [rest_cons]
    by_cases h : cmpK k y.f0 = 0
    · have e := (cmpK_zero _ _).1 h
      rw [if_pos h, ih]
      split
      · rfl
      · rename_i hq
        simp only [amt]
        rw [if_neg (fun e2 => hq ?_)]
        · omega
        · have := (cmpK_zero _ _).1 e2
          rw [this, e]; exact cmpK_good.refl _
    · rw [if_neg h]
      simp only [amt, ih]
      by_cases hq : cmpK k q = 0
      · have e := (cmpK_zero _ _).1 hq
        rw [if_pos hq, if_pos hq, if_neg (fun e2 => h (by rw [e]; exact e2))]
        rfl
      · rw [if_neg hq, if_neg hq]
theorem abt_rest (k q : S44) (hq : ¬ cmpK k q = 0) : ∀ l : List S55, abt q (rest k l) = abt q l
  | [] => by simp [abt, rest]
  | y :: l => by
    have ih := abt_rest k q hq l
    rw [rest_cons]
    by_cases h : cmpK k y.f0 = 0
    · have e := (cmpK_zero _ _).1 h
      rw [if_pos h, ih]
      simp only [abt]
      rw [if_neg (fun e2 => hq ?_)]
      · omega
      · have := (cmpK_zero _ _).1 e2
        rw [this, e]; exact cmpK_good.refl _
    · rw [if_neg h]
      simp only [abt, ih]
theorem psum_zero (p : S44 → Bool) : ∀ (n : Nat) (l : List S55), l.length ≤ n → (∀ k, amt k l = 0) → psum p l = 0
  | _, [], _, _ => rfl
  | 0, y :: l, h, _ => by simp at h
  | n + 1, y :: l, h, hz => by
    rw [psum_rest p y.f0, hz y.f0, psum_zero p n _ (by have := rest_len y.f0 y l (cmpK_good.refl _); simp at h; omega) fun k => by rw [amt_rest, hz k]; simp]
    simp
def negL (l : List S55) : List S55 := l.map fun x => ⟨x.f0, -x.f1⟩
theorem amt_neg (k : S44) : ∀ l : List S55, amt k (negL l) = - amt k l
  | [] => rfl
  | y :: l => by
    have ih := amt_neg k l
    show (if cmpK k y.f0 = 0 then -y.f1 else 0) + amt k (negL l) = _
    rw [ih]
    simp only [amt]
    split <;> omega
theorem psum_neg (p : S44 → Bool) : ∀ l : List S55, psum p (negL l) = - psum p l
  | [] => rfl
  | y :: l => by
    have ih := psum_neg p l
    show (if p y.f0 = true then -y.f1 else 0) + psum p (negL l) = _
    rw [ih]
    simp only [psum]
    split <;> omega
theorem psum_app (p : S44 → Bool) : ∀ a b, psum p (a ++ b) = psum p a + psum p b
  | [], b => by simp [psum]
  | y :: a, b => by simp only [List.cons_append, psum, psum_app p a b]; omega
theorem psum_eq (p : S44 → Bool) (a b : List S55) (h : ∀ k, amt k a = amt k b) : psum p a = psum p b := by
  have := psum_zero p _ (a ++ negL b) (Nat.le_refl _) fun k => by rw [amt_app, amt_neg, h k]; omega
  rw [psum_app, psum_neg] at this
  omega
theorem aabs_le : ∀ (r l : List S55), Rise r → (∀ k, (amt k r).natAbs ≤ abt k l) → aabs r ≤ aabs l
  | [], l, _, _ => by simp [aabs]
  | y :: r, l, hr, h => by
    have h1 := List.pairwise_cons.1 hr
    have ih := aabs_le r (rest y.f0 l) h1.2 fun k => by
      by_cases hk : cmpK y.f0 k = 0
      · have e := (cmpK_zero _ _).1 hk
        rw [amt_none k r fun z hz e2 => by
          have := h1.1 z hz
          unfold cmpS at this
          rw [e] at this
          omega]
        simp
      · rw [abt_rest _ _ hk]
        have := h k
        simp only [amt] at this
        rw [if_neg (fun e2 => hk (by have := cmpK_good.anti y.f0 k; omega))] at this
        simpa using this
    have h2 := h y.f0
    rw [hr.head] at h2
    rw [aabs_rest y.f0 l]
    simp only [aabs]
    omega
theorem aabs_small (B : Nat) : ∀ l : List S55, (∀ y ∈ l, y.f1.natAbs ≤ B) → aabs l ≤ l.length * B
  | [], _ => by simp [aabs]
  | y :: l, h => by
    have ih := aabs_small B l (fun z hz => h z (by simp [hz]))
    have hy := h y (by simp)
    simp only [aabs, List.length_cons, Nat.succ_mul]
    omega
theorem any_none (z : ByteArray) : anyB ⟨#[]⟩ z = true := by
  unfold anyB
  rw [if_pos (by rw [Lib.toList_data])]
/-- A sum fits where its sizes do. -/
theorem sum_cube (s : ByteArray) : ∀ (r : List S55) (acc : Int), acc.natAbs + aabs r ≤ 4611686018427387904 → sumL acc (askL s ⟨#[]⟩ ⟨#[]⟩ (r.map toO)) = some (acc + psum (fun k => anyB s k.f0) r)
  | [], acc, h => by simp [askL, sumL, psum]
  | y :: r, acc, h => by
    simp only [aabs] at h
    have hq : asked s ⟨#[]⟩ ⟨#[]⟩ (toO y).f0 = anyB s y.f0.f0 := by
      unfold asked
      rw [any_none, any_none]
      show (anyB s y.f0.f0 && (true && true)) = _
      simp
    rw [List.map_cons, askL_cons, hq]
    simp only [psum]
    by_cases c : anyB s y.f0.f0 = true
    · rw [if_pos c, if_pos c]
      simp only [sumL]
      rw [if_pos (show Fit (acc + (toO y).f1) by unfold Fit; have : (toO y).f1 = y.f1 := rfl; omega), sum_cube s r _ (by have : (toO y).f1 = y.f1 := rfl; omega)]
      congr 1
      show acc + y.f1 + _ = _
      omega
    · rw [if_neg c, if_neg c, sum_cube s r acc (by omega)]
      congr 1
      omega
theorem psum_any (s : ByteArray) (hs : s.toList ≠ []) : ∀ l : List S28, psum (fun k => anyB s k.f0) (l.map toT) = esum s l
  | [] => rfl
  | x :: l => by
    have ih := psum_any s hs l
    simp only [List.map_cons, psum, esum, ih]
    have e : (toT x).f0.f0 = x.f0.f0 := rfl
    have e1 : (toT x).f1 = x.f1 := rfl
    rw [e, e1]
    congr 1
    unfold anyB
    rw [if_neg hs]
    by_cases h : x.f0.f0.toList = s.toList
    · rw [if_pos h, if_pos (by rw [h]; exact beq_self_eq_true _)]
    · rw [if_neg h, if_neg (fun e => h (beq_iff_eq.1 e).symm)]
theorem psum_all : ∀ l : List S28, psum (fun k => anyB ⟨#[]⟩ k.f0) (l.map toT) = asum l
  | [] => rfl
  | x :: l => by
    have ih := psum_all l
    simp only [List.map_cons, psum, asum, ih]
    rw [any_none, if_pos rfl]
    rfl
theorem theirs_ours (r : List S55) : (r.map toO).map toT = r := by
  rw [List.map_map]
  exact List.map_id' _
/-- What FactGets asks of the cube. -/
theorem gets_cube (l : List S28) (h : Sml l) : ∃ c, Ev (fun k => fact_Of.f k (l.map toT)) (c, 0) ∧ (∀ q : S24, ∃ k, fact_Get.f k c q.f0 q.f1 q.f2 q.f3 q.f4 = some (amt (tk q) (l.map toT))) ∧
    (∃ k0, ∀ k, k0 ≤ k → fact_Sum.f k c (⟨#[]⟩ : ByteArray) (⟨#[]⟩ : ByteArray) (⟨#[]⟩ : ByteArray) = some (asum l, 0)) ∧ ∀ s : ByteArray, ∃ k n, fact_Sum.f k c s (⟨#[]⟩ : ByteArray) (⟨#[]⟩ : ByteArray) = some (n, 0) ∧ (s.toList ≠ [] → n = esum s l) := by
  have ha := aabs_small 4503599627370496 (l.map toT) fun y hy => by
    obtain ⟨x, hx, rfl⟩ := List.mem_map.1 hy
    exact h.2 x hx
  have hlen := h.1
  rw [List.length_map] at ha
  have habt : ∀ x, abt x (l.map toT) ≤ 4611686018427387904 := fun x => by
    have := aabs_rest x (l.map toT)
    omega
  obtain ⟨c, c1, c2, c3⟩ := Of_ev (l.map toT) (by simp; omega) habt
  rw [List.length_map] at c3
  have hab : aabs c ≤ aabs (l.map toT) := aabs_le c (l.map toT) c2.rise fun k => by rw [c2.sum]; exact amt_le_abt k _
  have sums : ∀ s, Ev (fun k => fact_Sum.f k c s (⟨#[]⟩ : ByteArray) (⟨#[]⟩ : ByteArray)) (psum (fun k => anyB s k.f0) (l.map toT), 0) := fun s => by
    have fit : ∀ y ∈ c.map toO, Fit y.f1 := fun y hy => by
      obtain ⟨z, hz, rfl⟩ := List.mem_map.1 hy
      have : ∀ (t : List S55), z ∈ t → z.f1.natAbs ≤ aabs t := fun t => by
        induction t with
        | nil => intro h; cases h
        | cons u t ih =>
          intro h
          simp only [aabs]
          rcases List.mem_cons.1 h with rfl | h
          · omega
          · have := ih h; omega
      have := this c hz
      unfold Fit
      have e : (toO z).f1 = z.f1 := rfl
      omega
    have e := Sum_ev s ⟨#[]⟩ ⟨#[]⟩ (c.map toO) (by simp; omega) fit
    rw [theirs_ours, sum_cube s c 0 (by simp; omega), psum_eq _ c (l.map toT) c2.sum] at e
    simpa [res] using e
  refine ⟨c, c1, fun q => ?_, ?_, fun s => ?_⟩
  · obtain ⟨k0, hk⟩ := Get_ev (tk q) c (by omega) c2.rise
    exact ⟨k0, by have := hk k0 (Nat.le_refl _); rw [c2.sum] at this; exact this⟩
  · have := sums ⟨#[]⟩
    rw [psum_all] at this
    exact this
  · obtain ⟨k0, hk⟩ := sums s
    exact ⟨k0, _, hk k0 (Nat.le_refl _), fun hs => psum_any s hs l⟩
end Go.Proofs.Ytdckeflggcefbaa.Y
namespace Go.Proofs.Ytdckeflggcefbaa.Y
open Go.RowKit Go.Proofs.YtdckeflggcefbaaW.PrintWords
theorem alive_at : comptrollerlaw09_alive.f 60 = some true := by kernel_rfl
theorem alive_ev : Ev (fun k => comptrollerlaw09_alive.f k) true := by
  refine ⟨60, fun k hk => ?_⟩
  obtain ⟨j, rfl⟩ := Nat.exists_eq_add_of_le hk
  clear hk
  induction j with
  | zero => exact alive_at
  | succ n ih => exact comptrollerlaw09_alive.mono (60 + n) _ ih
end Go.Proofs.Ytdckeflggcefbaa.Y
namespace Go.Proofs.Ytdckeflggcefbaa.Y
open Go.RowKit Go.ChangeShapes Go.WideShapes Go.ChangeAt Go.Deep Go.Proofs.YtdckeflggcefbaaW.PrintWords
set_option linter.unusedVariables false
set_option linter.unusedSimpArgs false
section
variable {H : Type} {enc : TypeId × Value → H} {w : World} {base : Nat} {spare : Nat → Bool} {held : Bool}
theorem take1 {cs : List Value} {i : Nat} {v : Value} (h : (cs.drop i).take 1 = [v]) : cs[i]? = some v := by
  have h2 : ((cs.drop i).take 1)[0]? = some v := by rw [h]; rfl
  simpa [List.getElem?_take, List.getElem?_drop] using h2
theorem cells9 : Try.prog.cellsOf 9 = 1 := by kernel_rfl
theorem cells3 : Try.prog.cellsOf 3 = 1 := by kernel_rfl
theorem cells2 : Try.prog.cellsOf 2 = 1 := by kernel_rfl
theorem cells24 : Try.prog.cellsOf 24 = 5 := by kernel_rfl
theorem cells28 : Try.prog.cellsOf 28 = 6 := by kernel_rfl
theorem str_at {n : Nat} {cs : List Value} {i : Nat} {xs : List (DataW H × List MemPlace)} {j : Nat} (hj : j < xs.length)
    (h : DataW.trod enc Try.prog w base spare held n 9 ((cs.drop i).take (Try.prog.cellsOf 9)) = xs[j]?) : ∃ s, cs[i]? = some (.string s) := by
  rw [List.getElem?_eq_getElem hj, cells9] at h
  obtain ⟨s, hs, _⟩ := DataW.trod_string Try.underlying9 h
  exact ⟨s, take1 hs⟩
theorem int_at {n : Nat} {cs : List Value} {i : Nat} {t : TypeId} (ht : Try.prog.underlying t = some (.int .i64)) (hc : Try.prog.cellsOf t = 1) {xs : List (DataW H × List MemPlace)} {j : Nat} (hj : j < xs.length)
    (h : DataW.trod enc Try.prog w base spare held n t ((cs.drop i).take (Try.prog.cellsOf t)) = xs[j]?) : ∃ s, cs[i]? = some (.int .i64 s) ∧ (Lit.int .i64 s).wf = true := by
  rw [List.getElem?_eq_getElem hj, hc] at h
  obtain ⟨s, hs, _, hw⟩ := DataW.trod_int ht h
  exact ⟨s, take1 hs, hw⟩
theorem list5 {cs : List Value} {a b c d e : Value} (hl : cs.length = 5) (h0 : cs[0]? = some a) (h1 : cs[1]? = some b) (h2 : cs[2]? = some c) (h3 : cs[3]? = some d) (h4 : cs[4]? = some e) : cs = [a, b, c, d, e] := by
  match cs, hl with
  | [x0, x1, x2, x3, x4], _ => simp at h0 h1 h2 h3 h4; subst h0 h1 h2 h3 h4; rfl
theorem trod_key {fuel : Nat} {cs : List Value} {x : DataW H × List MemPlace} (h : DataW.trod enc Try.prog w base spare held fuel 24 cs = some x) :
    ∃ k : S24, cs = [.string k.f0, .string k.f1, .string k.f2, .string k.f3, .int .i64 k.f4] ∧ (Lit.int .i64 k.f4).wf = true := by
  obtain ⟨xs, n, _, _, hl, hx, hf⟩ := DataW.trod_struct Try.underlying24 h
  have hx' : xs.length = 5 := hx
  obtain ⟨a, ha⟩ := str_at (by omega) (hf 0 _ rfl)
  obtain ⟨b, hb⟩ := str_at (by omega) (hf 1 _ rfl)
  obtain ⟨c, hc⟩ := str_at (by omega) (hf 2 _ rfl)
  obtain ⟨d, hd⟩ := str_at (by omega) (hf 3 _ rfl)
  obtain ⟨e, he, hw⟩ := int_at Try.underlying3 cells3 (by omega) (hf 4 _ rfl)
  exact ⟨⟨a, b, c, d, e⟩, list5 (hl.trans cells24) ha hb hc hd he, hw⟩
theorem trod_fact {fuel : Nat} {cs : List Value} {x : DataW H × List MemPlace} (h : DataW.trod enc Try.prog w base spare held fuel 28 cs = some x) :
    ∃ f : S28, cs = [.string f.f0.f0, .string f.f0.f1, .string f.f0.f2, .string f.f0.f3, .int .i64 f.f0.f4, .int .i64 f.f1] ∧ (Lit.int .i64 f.f0.f4).wf = true ∧ (Lit.int .i64 f.f1).wf = true := by
  obtain ⟨xs, n, _, _, hl, hx, hf⟩ := DataW.trod_struct Try.underlying28 h
  have hx' : xs.length = 2 := hx
  have h0 := hf 0 _ rfl
  rw [List.getElem?_eq_getElem (show 0 < xs.length by omega)] at h0
  obtain ⟨k, hk, hkw⟩ := trod_key h0
  obtain ⟨e, he, hw⟩ := int_at Try.underlying2 cells2 (by omega) (hf 1 _ rfl)
  have hl' := hl.trans cells28
  refine ⟨⟨k, e⟩, ?_, hkw, hw⟩
  replace he : cs[5]? = some _ := he
  replace hk : (cs.drop 0).take (Try.prog.cellsOf 24) = _ := hk
  rw [cells24, List.drop_zero] at hk
  match cs, hl' with
  | [x0, x1, x2, x3, x4, x5], _ => simp at he hk; obtain ⟨rfl, rfl, rfl, rfl, rfl⟩ := hk; subst he; rfl
/-- A key, as it comes in. -/
theorem open_key {v : Value} {r : Reach} {b0 : Nat} {d : DataW H} {ps : List MemPlace} (hv : Value.okWide Try.prog w r b0 24 v) (h : DataW.Trod enc Try.prog w base spare held 24 v d ps) :
    ∃ k : S24, v = .agg #[.string k.f0, .string k.f1, .string k.f2, .string k.f3, .int .i64 k.f4] ∧ (Lit.int .i64 k.f4).wf = true := by
  obtain ⟨cs, rfl, _⟩ := okWide_struct Try.underlying24 hv
  obtain ⟨fuel, hf⟩ := h
  obtain ⟨k, hk, hw⟩ := trod_key hf
  refine ⟨k, ?_, hw⟩
  obtain ⟨l⟩ := cs
  replace hk : l = _ := hk
  rw [hk]
/-- Facts, as they come in. -/
theorem open_facts {a : Option Addr} {len cap : Nat} {d : DataW H} {ps : List MemPlace} (h : DataW.Trod enc Try.prog w 0 (fun _ => true) true 22 (.slice a len cap) d ps) :
    ∃ l : List S28, l.length = len ∧ len ≤ cap ∧ len ≤ 9223372036854775807 ∧ Kd.C k28 w a l.length l ∧ ∀ x ∈ l, (Lit.int .i64 x.f1).wf = true ∧ (Lit.int .i64 x.f0.f4).wf = true := by
  obtain ⟨fuel, hf⟩ := h
  rcases open_slice Try.underlying22 hf with ⟨hcs, _⟩ | ⟨x, l, c, m, n, D, Pl, hcs, _, hl, hm, hmm, _, hi⟩
  · simp [Value.cells] at hcs
    obtain ⟨rfl, rfl, rfl⟩ := hcs
    exact ⟨[], rfl, Nat.le_refl _, by omega, ⟨rfl, by simp, fun h => absurd h (by simp)⟩, by simp⟩
  · simp [Value.cells] at hcs
    obtain ⟨rfl, rfl, rfl⟩ := hcs
    rw [if_pos rfl] at hmm
    subst hmm
    have hbig : len ≤ 9223372036854775807 := Nat.le_trans hl (Nat.le_trans hm (by decide))
    have each : ∀ i : Nat, i < len → ∃ f : S28, (Lit.int .i64 f.f0.f4).wf = true ∧ (Lit.int .i64 f.f1).wf = true ∧ ∀ (j : Nat) u, [Value.string f.f0.f0, .string f.f0.f1, .string f.f0.f2, .string f.f0.f3, .int .i64 f.f0.f4, .int .i64 f.f1][j]? = some u → w.cell? (x.add (i * 6 + j)) = some u := fun i hlt => by
      obtain ⟨cs', hc, ht⟩ := hi i (by omega)
      rw [cells28] at hc
      obtain ⟨f, hf, h1, h2⟩ := trod_fact ht
      obtain ⟨_, hcl, hat⟩ := World.cells?_some hc
      refine ⟨f, h1, h2, fun j u hj => ?_⟩
      have hjl : j < 6 := (List.getElem?_eq_some_iff.1 hj).1
      have := hat j hjl
      rw [← Go.Deep.add_add, this, hf, hj]
    refine ⟨(List.range len).map fun i => if h : i < len then Classical.choose (each i h) else z28, by simp, hl, hbig, ⟨by simp, by simpa using hbig, fun _ => ⟨x, rfl, fun j p hj => ?_⟩⟩, fun y hy => ?_⟩
    · have hjl : j < len := by simpa using (List.getElem?_eq_some_iff.1 hj).1
      have hp : p = Classical.choose (each j hjl) := by
        rw [List.getElem?_map, List.getElem?_range hjl] at hj
        simp [hjl] at hj
        exact hj.symm
      subst hp
      exact ⟨_, rfl, k28_mk w _, (Classical.choose_spec (each j hjl)).2.2⟩
    · obtain ⟨i, hi, rfl⟩ := List.mem_map.1 hy
      have hil : i < len := by simpa using hi
      simp only [hil, dif_pos]
      exact ⟨(Classical.choose_spec (each i hil)).2.1, (Classical.choose_spec (each i hil)).1⟩
end
section
variable {H : Type} {enc : TypeId × Value → H} {w : World} {base : Nat} {spare : Nat → Bool} {held : Bool}
/-- A key's texts are no longer than a text can be; its mark is a whole number. -/
def KeyOk (k : S24) : Prop := k.f0.size ≤ maxLen ∧ k.f1.size ≤ maxLen ∧ k.f2.size ≤ maxLen ∧ k.f3.size ≤ maxLen ∧ (Lit.int .i64 k.f4).wf = true
theorem str_at2 {n : Nat} {cs : List Value} {i : Nat} {xs : List (DataW H × List MemPlace)} {j : Nat} (hj : j < xs.length)
    (h : DataW.trod enc Try.prog w base spare held n 9 ((cs.drop i).take (Try.prog.cellsOf 9)) = xs[j]?) : ∃ s, cs[i]? = some (.string s) ∧ s.size ≤ maxLen := by
  rw [List.getElem?_eq_getElem hj, cells9] at h
  obtain ⟨s, hs, _, hl⟩ := DataW.trod_string Try.underlying9 h
  exact ⟨s, take1 hs, hl⟩
theorem trod_key2 {fuel : Nat} {cs : List Value} {x : DataW H × List MemPlace} (h : DataW.trod enc Try.prog w base spare held fuel 24 cs = some x) :
    ∃ k : S24, cs = [.string k.f0, .string k.f1, .string k.f2, .string k.f3, .int .i64 k.f4] ∧ KeyOk k := by
  obtain ⟨xs, n, _, _, hl, hx, hf⟩ := DataW.trod_struct Try.underlying24 h
  have hx' : xs.length = 5 := hx
  obtain ⟨a, ha, la⟩ := str_at2 (by omega) (hf 0 _ rfl)
  obtain ⟨b, hb, lb⟩ := str_at2 (by omega) (hf 1 _ rfl)
  obtain ⟨c, hc, lc⟩ := str_at2 (by omega) (hf 2 _ rfl)
  obtain ⟨d, hd, ld⟩ := str_at2 (by omega) (hf 3 _ rfl)
  obtain ⟨e, he, hw⟩ := int_at Try.underlying3 cells3 (by omega) (hf 4 _ rfl)
  exact ⟨⟨a, b, c, d, e⟩, list5 (hl.trans cells24) ha hb hc hd he, la, lb, lc, ld, hw⟩
theorem trod_fact2 {fuel : Nat} {cs : List Value} {x : DataW H × List MemPlace} (h : DataW.trod enc Try.prog w base spare held fuel 28 cs = some x) :
    ∃ f : S28, cs = [.string f.f0.f0, .string f.f0.f1, .string f.f0.f2, .string f.f0.f3, .int .i64 f.f0.f4, .int .i64 f.f1] ∧ KeyOk f.f0 ∧ (Lit.int .i64 f.f1).wf = true := by
  obtain ⟨xs, n, _, _, hl, hx, hf⟩ := DataW.trod_struct Try.underlying28 h
  have hx' : xs.length = 2 := hx
  have h0 := hf 0 _ rfl
  rw [List.getElem?_eq_getElem (show 0 < xs.length by omega)] at h0
  obtain ⟨k, hk, hkw⟩ := trod_key2 h0
  obtain ⟨e, he, hw⟩ := int_at Try.underlying2 cells2 (by omega) (hf 1 _ rfl)
  have hl' := hl.trans cells28
  refine ⟨⟨k, e⟩, ?_, hkw, hw⟩
  replace he : cs[5]? = some _ := he
  replace hk : (cs.drop 0).take (Try.prog.cellsOf 24) = _ := hk
  rw [cells24, List.drop_zero] at hk
  match cs, hl' with
  | [x0, x1, x2, x3, x4, x5], _ => simp at he hk; obtain ⟨rfl, rfl, rfl, rfl, rfl⟩ := hk; subst he; rfl
/-- Facts, as they come in. -/
theorem open_facts2 {a : Option Addr} {len cap : Nat} {d : DataW H} {ps : List MemPlace} (h : DataW.Trod enc Try.prog w 0 (fun _ => true) true 22 (.slice a len cap) d ps) :
    ∃ l : List S28, l.length = len ∧ len ≤ cap ∧ len ≤ 9223372036854775807 ∧ Kd.C k28 w a l.length l ∧ ∀ x ∈ l, (Lit.int .i64 x.f1).wf = true ∧ KeyOk x.f0 := by
  obtain ⟨fuel, hf⟩ := h
  rcases open_slice Try.underlying22 hf with ⟨hcs, _⟩ | ⟨x, l, c, m, n, D, Pl, hcs, _, hl, hm, hmm, _, hi⟩
  · simp [Value.cells] at hcs
    obtain ⟨rfl, rfl, rfl⟩ := hcs
    exact ⟨[], rfl, Nat.le_refl _, by omega, ⟨rfl, by simp, fun h => absurd h (by simp)⟩, by simp⟩
  · simp [Value.cells] at hcs
    obtain ⟨rfl, rfl, rfl⟩ := hcs
    rw [if_pos rfl] at hmm
    subst hmm
    have hbig : len ≤ 9223372036854775807 := Nat.le_trans hl (Nat.le_trans hm (by decide))
    have each : ∀ i : Nat, i < len → ∃ f : S28, KeyOk f.f0 ∧ (Lit.int .i64 f.f1).wf = true ∧ ∀ (j : Nat) u, [Value.string f.f0.f0, .string f.f0.f1, .string f.f0.f2, .string f.f0.f3, .int .i64 f.f0.f4, .int .i64 f.f1][j]? = some u → w.cell? (x.add (i * 6 + j)) = some u := fun i hlt => by
      obtain ⟨cs', hc, ht⟩ := hi i (by omega)
      rw [cells28] at hc
      obtain ⟨f, hf, h1, h2⟩ := trod_fact2 ht
      obtain ⟨_, hcl, hat⟩ := World.cells?_some hc
      refine ⟨f, h1, h2, fun j u hj => ?_⟩
      have hjl : j < 6 := (List.getElem?_eq_some_iff.1 hj).1
      have := hat j hjl
      rw [← Go.Deep.add_add, this, hf, hj]
    refine ⟨(List.range len).map fun i => if h : i < len then Classical.choose (each i h) else z28, by simp, hl, hbig, ⟨by simp, by simpa using hbig, fun _ => ⟨x, rfl, fun j p hj => ?_⟩⟩, fun y hy => ?_⟩
    · have hjl : j < len := by simpa using (List.getElem?_eq_some_iff.1 hj).1
      have hp : p = Classical.choose (each j hjl) := by
        rw [List.getElem?_map, List.getElem?_range hjl] at hj
        simp [hjl] at hj
        exact hj.symm
      subst hp
      exact ⟨_, rfl, k28_mk w _, (Classical.choose_spec (each j hjl)).2.2⟩
    · obtain ⟨i, hi, rfl⟩ := List.mem_map.1 hy
      have hil : i < len := by simpa using hi
      simp only [hil, dif_pos]
      exact ⟨(Classical.choose_spec (each i hil)).2.1, (Classical.choose_spec (each i hil)).1⟩
end
end Go.Proofs.Ytdckeflggcefbaa.Y
namespace Go.Proofs.Ytdckeflggcefbaa.Y
open Go.RowKit Go.Proofs.YtdckeflggcefbaaW.PrintWords Go.Proofs.YtdckeflggcefbaaW.PrintLast Go.Proofs.YtdckeflggcefbaaW.PrintMore
set_option linter.unusedVariables false
theorem gets_calls (A0 : Option Addr) (c0 : Nat) (l : List S28) (w : World) (hr0 : Kd.C k28 w A0 l.length l) (hc0 : l.length ≤ c0) (hl : l.length ≤ 9223372036854775807) (hk : ∀ x ∈ l, KeyOk x.f0) :
    Calls Try.prog 5 #[.slice A0 l.length c0] w fun e w' => e = .returned (.bool true) ∧ Below w.heap.size w w' := by
  obtain ⟨k1, h1⟩ := alive_ev
  obtain ⟨b1, ⟨k2, h2⟩, f2⟩ := Few_ev l hl
  obtain ⟨b2, ⟨k3, h3⟩, f3⟩ := Small_ev l hl
  cases b1 with
  | false => exact gets_few (k1 + k2) A0 c0 l w hr0 hc0 (h1 _ (by omega)) (h2 _ (by omega))
  | true =>
    cases b2 with
    | false => exact gets_small (k1 + k2 + k3) A0 c0 l w hr0 hc0 (h1 _ (by omega)) (h2 _ (by omega)) (h3 _ (by omega))
    | true =>
      have sm : Sml l := ⟨f2 rfl, f3 rfl⟩
      obtain ⟨k4, h4⟩ := Theirs_ev l (by have := sm.1; omega)
      obtain ⟨c, ⟨k5, h5⟩, g1, ⟨k6, h6⟩, g3⟩ := gets_cube l sm
      exact gets_all (k1 + k2 + k3 + k4 + k5 + k6) A0 c0 l (l.map toT) c w hr0 hc0 (h1 _ (by omega)) (h2 _ (by omega)) (h3 _ (by omega)) (h4 _ (by omega)) (h5 _ (by omega))
        (fun x hx => by obtain ⟨a, b, c, d, e⟩ := hk x hx; exact key24_mk x.f0 a b c d e) (by have := sm.1; unfold maxLen; omega) (fun x hx => (hk x hx).1) sm g1 (h6 _ (by omega)) g3
end Go.Proofs.Ytdckeflggcefbaa.Y
