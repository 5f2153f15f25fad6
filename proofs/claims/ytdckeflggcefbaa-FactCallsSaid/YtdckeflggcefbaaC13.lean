/- FactCalls holds: plain Lean. -/
import Derived.Test.YtdckeflggcefbaaC10
import Derived.Test.YtdckeflggcefbaaC11
import Derived.Test.YtdckeflggcefbaaC12
namespace Go.Proofs.Ytdckeflggcefbaa.Y
open Go.RowKit Go.Proofs.YtdckeflggcefbaaW.PrintWords Go.Proofs.YtdckeflggcefbaaW.PrintLast Go.Proofs.YtdckeflggcefbaaW.PrintMore
set_option linter.unusedVariables false
set_option linter.unusedSimpArgs false
theorem ours_theirs (o : List S28) : (o.map toT).map toO = o := by
  rw [List.map_map]
  exact List.map_id' _
theorem calls_j0 (a b : List S28) (q : S24) (ha : a.length ≤ 150) (hb : b.length ≤ 150) (hfa : ∀ x ∈ a, Fit x.f1) (hfb : ∀ x ∈ b, Fit x.f1) (hr : Rise (a.map toT)) :
    Ev (fun k => comptrollerlaw09_FactCalls.j0 k a b false q.f0 q.f1 q.f2 q.f3 q.f4) true := by
  have fit : ∀ x ∈ a ++ b, Fit x.f1 := fun x hx => by
    rcases List.mem_append.1 hx with h | h
    · exact hfa x h
    · exact hfb x h
  obtain ⟨o, e, o1, o2, o3⟩ := Of_same (a ++ b) (by simp; omega) fit
  have ta := Theirs_ev a (by omega)
  have tb := Theirs_ev b (by omega)
  have cat := Concat_ev (a.map toT) (b.map toT) (by simp; omega)
  rw [← List.map_append] at cat
  have add : Ev (fun k => fact_Add.f k (a.map toT) (b.map toT)) (o.map toT, e) := by
    unfold fact_Add.f
    exact Ev.bind (g := fun k t => (fact_Of.f k t).bind fun bt => some (bt.1, bt.2)) cat (Ev.bind (g := fun _ bt => some (bt.1, bt.2)) o2 (Ev.const fun _ => rfl))
  have radd : Ev (fun k => comptrollerref09_Add.f k a b) (o, e) := by
    unfold comptrollerref09_Add.f
    have b1 : ([] : List S28).length + a.length < 1759218604441 := by simp; omega
    have b2 : a.length + b.length < 1759218604441 := by omega
    simp only [Option.bind_some, if_pos b1, List.nil_append, if_pos b2]
    exact Ev.bind (g := fun _ bt => some (bt.1, bt.2)) o1 (Ev.const fun _ => rfl)
  have ol : o.length ≤ 1000000 := by simp at o3; omega
  have sum := Sum_ev q.f0 q.f1 q.f2 a (by omega) hfa
  have rsum := RefSum_ev q.f0 q.f1 q.f2 a (by omega) hfa
  have oo := Ours_ev (o.map toT) (by simpa using ol)
  rw [ours_theirs] at oo
  have same := Same_ev o ol
  have get := Get_ev (tk q) (a.map toT) (by simp; omega) hr
  have rget := RefGet_ev q a (by omega) hr
  have pick := Pick_ev q.f0 q.f4 a (by omega)
  have rpick := RefPick_ev q.f0 q.f4 a (by omega)
  have pl : (a.filter fun x => pickB q.f0 q.f4 x.f0).length ≤ 1000000 := by
    have := List.length_filter_le (fun x : S28 => pickB q.f0 q.f4 x.f0) a
    omega
  have op := Ours_ev ((a.filter fun x => pickB q.f0 q.f4 x.f0).map toT) (by simpa using pl)
  rw [ours_theirs] at op
  have psame := Same_ev _ pl
  obtain ⟨k0, hk⟩ : ∃ k0, ∀ k, k0 ≤ k → comptrollerlaw09_Theirs.f k a = some (a.map toT) ∧ comptrollerlaw09_Theirs.f k b = some (b.map toT) ∧ fact_Add.f k (a.map toT) (b.map toT) = some (o.map toT, e) ∧ comptrollerref09_Add.f k a b = some (o, e) ∧ fact_Sum.f k (a.map toT) q.f0 q.f1 q.f2 = some (res (sumL 0 (askL q.f0 q.f1 q.f2 a))) ∧ comptrollerref09_Sum.f k a q.f0 q.f1 q.f2 = some (res (sumL 0 (askL q.f0 q.f1 q.f2 a))) ∧
      comptrollerlaw09_Ours.f k (o.map toT) = some o ∧ comptrollerref09_Same.f k o o = some true ∧ fact_Get.f k (a.map toT) q.f0 q.f1 q.f2 q.f3 q.f4 = some (amt (tk q) (a.map toT)) ∧ comptrollerref09_Get.f k a q.f0 q.f1 q.f2 q.f3 q.f4 = some (amt (tk q) (a.map toT)) ∧
      fact_Pick.f k (a.map toT) q.f0 q.f4 = some ((a.filter fun x => pickB q.f0 q.f4 x.f0).map toT) ∧ comptrollerref09_Pick.f k a q.f0 q.f4 = some (a.filter fun x => pickB q.f0 q.f4 x.f0) ∧ comptrollerlaw09_Ours.f k ((a.filter fun x => pickB q.f0 q.f4 x.f0).map toT) = some (a.filter fun x => pickB q.f0 q.f4 x.f0) ∧ comptrollerref09_Same.f k (a.filter fun x => pickB q.f0 q.f4 x.f0) (a.filter fun x => pickB q.f0 q.f4 x.f0) = some true := by
    obtain ⟨k1, h1⟩ := ta
    obtain ⟨k2, h2⟩ := tb
    obtain ⟨k3, h3⟩ := add
    obtain ⟨k4, h4⟩ := radd
    obtain ⟨k5, h5⟩ := sum
    obtain ⟨k6, h6⟩ := rsum
    obtain ⟨k7, h7⟩ := oo
    obtain ⟨k8, h8⟩ := same
    obtain ⟨k9, h9⟩ := get
    obtain ⟨k10, h10⟩ := rget
    obtain ⟨k11, h11⟩ := pick
    obtain ⟨k12, h12⟩ := rpick
    obtain ⟨k13, h13⟩ := op
    obtain ⟨k14, h14⟩ := psame
    exact ⟨k1 + k2 + k3 + k4 + k5 + k6 + k7 + k8 + k9 + k10 + k11 + k12 + k13 + k14, fun k hk => ⟨h1 k (by omega), h2 k (by omega), h3 k (by omega), h4 k (by omega), h5 k (by omega), h6 k (by omega), h7 k (by omega), h8 k (by omega), h9 k (by omega), h10 k (by omega), h11 k (by omega), h12 k (by omega), h13 k (by omega), h14 k (by omega)⟩⟩
  refine ⟨k0 + 1, fun k hle => ?_⟩
  obtain ⟨k, rfl⟩ : ∃ j, k = j + 1 := ⟨k - 1, by omega⟩
  obtain ⟨h1, h2, h3, h4, h5, h6, h7, h8, h9, h10, h11, h12, h13, h14⟩ := hk k (by omega)
  show comptrollerlaw09_FactCalls.j0 (k + 1) _ _ _ _ _ _ _ _ = _
  simp only [comptrollerlaw09_FactCalls.j0]
  rw [if_neg (by simp)]
  simp only [h1, h2, h3, h4, h5, h6, h7, h8, h9, h10, h11, h12, h13, h14, Option.bind_some, if_true]
/-- FactCalls says true. -/
theorem calls_law (a b : List S28) (q : S24) (ha : a.length ≤ 9223372036854775807) (hb : b.length ≤ 9223372036854775807) (hfa : ∀ x ∈ a, Fit x.f1) (hfb : ∀ x ∈ b, Fit x.f1) :
    Ev (fun k => comptrollerlaw09_FactCalls.f k a b q.f0 q.f1 q.f2 q.f3 q.f4) true := by
  have out : Ev (fun k => comptrollerlaw09_FactCalls.j0 k a b true q.f0 q.f1 q.f2 q.f3 q.f4) true := Ev.some fun k => by simp [comptrollerlaw09_FactCalls.j0]
  obtain ⟨b1, f1, f2⟩ := Few_ev a ha
  obtain ⟨b2, g1, g2⟩ := Few_ev b hb
  obtain ⟨b3, e1, e2⟩ := Few_ev [⟨q, 0⟩] (by simp)
  unfold comptrollerlaw09_FactCalls.f
  refine Ev.bind (g := fun k t384 => (if t384 = true then ((comptrollerlaw09_Few.f k a).bind fun t385 => (if t385 = true then ((comptrollerlaw09_Few.f k b).bind fun t386 => (if t386 = true then ((comptrollerlaw09_Few.f k (([⟨q, 0⟩] : List (S28)))).bind fun t390 => (if t390 = true then ((comptrollerref09_Right.f k a).bind fun t391 => (comptrollerlaw09_FactCalls.j0 k a b (!t391) q.f0 q.f1 q.f2 q.f3 q.f4)) else (comptrollerlaw09_FactCalls.j0 k a b true q.f0 q.f1 q.f2 q.f3 q.f4))) else (comptrollerlaw09_FactCalls.j0 k a b true q.f0 q.f1 q.f2 q.f3 q.f4))) else (comptrollerlaw09_FactCalls.j0 k a b true q.f0 q.f1 q.f2 q.f3 q.f4))) else (some false))) alive_ev ?_
  simp only [if_true]
  refine Ev.bind (g := fun k t385 => (if t385 = true then ((comptrollerlaw09_Few.f k b).bind fun t386 => (if t386 = true then ((comptrollerlaw09_Few.f k (([⟨q, 0⟩] : List (S28)))).bind fun t390 => (if t390 = true then ((comptrollerref09_Right.f k a).bind fun t391 => (comptrollerlaw09_FactCalls.j0 k a b (!t391) q.f0 q.f1 q.f2 q.f3 q.f4)) else (comptrollerlaw09_FactCalls.j0 k a b true q.f0 q.f1 q.f2 q.f3 q.f4))) else (comptrollerlaw09_FactCalls.j0 k a b true q.f0 q.f1 q.f2 q.f3 q.f4))) else (comptrollerlaw09_FactCalls.j0 k a b true q.f0 q.f1 q.f2 q.f3 q.f4))) f1 ?_
  by_cases c1 : b1 = true
  · simp only [if_pos c1]
    refine Ev.bind (g := fun k t386 => (if t386 = true then ((comptrollerlaw09_Few.f k (([⟨q, 0⟩] : List (S28)))).bind fun t390 => (if t390 = true then ((comptrollerref09_Right.f k a).bind fun t391 => (comptrollerlaw09_FactCalls.j0 k a b (!t391) q.f0 q.f1 q.f2 q.f3 q.f4)) else (comptrollerlaw09_FactCalls.j0 k a b true q.f0 q.f1 q.f2 q.f3 q.f4))) else (comptrollerlaw09_FactCalls.j0 k a b true q.f0 q.f1 q.f2 q.f3 q.f4))) g1 ?_
    by_cases c2 : b2 = true
    · simp only [if_pos c2]
      refine Ev.bind (g := fun k t390 => (if t390 = true then ((comptrollerref09_Right.f k a).bind fun t391 => (comptrollerlaw09_FactCalls.j0 k a b (!t391) q.f0 q.f1 q.f2 q.f3 q.f4)) else (comptrollerlaw09_FactCalls.j0 k a b true q.f0 q.f1 q.f2 q.f3 q.f4))) e1 ?_
      by_cases c3 : b3 = true
      · simp only [if_pos c3]
        have la := f2 c1
        have lb := g2 c2
        obtain ⟨b4, r1, r2⟩ := RefRight_ev a (by omega)
        refine Ev.bind (g := fun k t391 => (comptrollerlaw09_FactCalls.j0 k a b (!t391) q.f0 q.f1 q.f2 q.f3 q.f4)) r1 ?_
        cases b4 with
        | true => exact calls_j0 a b q la lb hfa hfb (r2 rfl)
        | false => exact out
      · simp only [if_neg c3]
        exact out
    · simp only [if_neg c2]
      exact out
  · simp only [if_neg c1]
    exact out
end Go.Proofs.Ytdckeflggcefbaa.Y
