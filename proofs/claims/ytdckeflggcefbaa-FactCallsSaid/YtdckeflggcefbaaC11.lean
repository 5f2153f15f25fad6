/- alive: the answers that the document fixes are given. Plain Lean. -/
import Derived.KernelRfl
import Derived.Test.YtdckeflggcefbaaC1
import Derived.Test.YtdckeflggcefbaaC10
namespace Go.Proofs.Ytdckeflggcefbaa.Y
open Go.RowKit Go.Proofs.YtdckeflggcefbaaW.PrintWords
theorem alive_at : comptrollerlaw09_alive.f 60 = some true := by kernel_rfl
theorem alive_ev : Ev (fun k => comptrollerlaw09_alive.f k) true := by
  refine ⟨60, fun k hk => ?_⟩
  obtain ⟨j, rfl⟩ := Nat.exists_eq_add_of_le hk
  clear hk
  induction j with
  | zero => exact alive_at
  | succ n ih => exact comptrollerlaw09_alive.mono (60 + n) _ ih
end Go.Proofs.Ytdckeflggcefbaa.Y
