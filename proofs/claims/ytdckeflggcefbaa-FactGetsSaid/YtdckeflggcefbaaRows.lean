/-
  No cell of these rows narrows 'for every input' (looked for: loops, veiled, ifaces, maps, wideKeys, modest, calm, conditions, laid).
  DERIVED. THE GIVEN ROWS OF THIS SEAT. 3 by the template 'for every input the law returns true; each argument reads behind the call as it read before'; 0 by the template 'total and deterministic' (their statements: YtdckeflggcefbaaTotals.lean).
  GIVEN WITH THE SEED: the statements are not yours to turn. If you find one false, say at which input.
  Laid BY PROGRAM, IN A SANDBOX (cutbox-rows.mjs): the forced cells as the released guide's own fill.sh prints them over the translation a1acda0864c0d590… (all of the seat's roots in one cut). By AI agents, Wed Nov 11 2026. No macro, syntax, notation, axiom, sorry.
-/
import Derived.Test.YtdckeflggcefbaaChecked
import GoSem.Claim
import GoSem.ClaimJoined
import GoSem.ClaimMapViews
import Derived.JoinedTies
import Derived.KernelRfl
namespace Go.Proofs.Ytdckeflggcefbaa
/- THE CELL 'sum', in the pinned program and in every row, IS THE sha256 OF THE DUMP (.gsa) THAT YtdckeflggcefbaaProg.lean LOADS. Nothing in Lean hashes anything: it is a label: what it is worth is what the hold of that sum in a sandbox is worth. -/
noncomputable def Try.pinned : Pinned := { name := "ytdckeflggcefbaa", sum := "a1acda0864c0d590faef3d1b727fc9159d8a41c8285861be9a718f287280bf20", checked := Try.checked }
namespace Rows
def none {H : Type} : Left H := { results := [], args := [] }

/-- 'comptrollerlaw09.FactCalls': WHATEVER THE INPUT: true; the input reads as it did. -/
def factCallsSpec : ChangeSpec := { name := "factCalls", fn := fun _ => fun
  | [d1, d2, d3] => { results := [.lit (.bool true)], args := [d1, d2, d3] }
  | _ => none }
def factCallsRow : OpenClaim := { program := "ytdckeflggcefbaa", sum := "a1acda0864c0d590faef3d1b727fc9159d8a41c8285861be9a718f287280bf20", func := "comptroller/comptrollerlaw09.FactCalls", spec := "factCalls", inPlace := ["internal/bytealg.abigen_runtime_cmpstring"], unfollowed := true, recurses := true, plainKeys := false, apart := false }
def FactCallsSaid : Prop := factCallsRow.holds Try.pinned (OpenSpec.ofChange factCallsSpec)

/-- ITS FALSE NEIGHBOUR: 'it returns false'. Refute it at one input. -/
def factCallsWrong : ChangeSpec := { name := "factCalls", fn := fun _ => fun
  | [d1, d2, d3] => { results := [.lit (.bool false)], args := [d1, d2, d3] }
  | _ => none }
def FactCallsWrongFalsely : Prop := factCallsRow.holds Try.pinned (OpenSpec.ofChange factCallsWrong)

/-- 'comptrollerlaw09.FactOrder': WHATEVER THE INPUT: true; the input reads as it did. -/
def factOrderSpec : ChangeSpec := { name := "factOrder", fn := fun _ => fun
  | [d1, d2, d3] => { results := [.lit (.bool true)], args := [d1, d2, d3] }
  | _ => none }
def factOrderRow : OpenClaim := { program := "ytdckeflggcefbaa", sum := "a1acda0864c0d590faef3d1b727fc9159d8a41c8285861be9a718f287280bf20", func := "comptroller/comptrollerlaw09.FactOrder", spec := "factOrder", inPlace := ["internal/bytealg.abigen_runtime_cmpstring"], unfollowed := true, recurses := true, plainKeys := false, apart := false }
def FactOrderSaid : Prop := factOrderRow.holds Try.pinned (OpenSpec.ofChange factOrderSpec)

/-- ITS FALSE NEIGHBOUR: 'it returns false'. Refute it at one input. -/
def factOrderWrong : ChangeSpec := { name := "factOrder", fn := fun _ => fun
  | [d1, d2, d3] => { results := [.lit (.bool false)], args := [d1, d2, d3] }
  | _ => none }
def FactOrderWrongFalsely : Prop := factOrderRow.holds Try.pinned (OpenSpec.ofChange factOrderWrong)

/-- 'comptrollerlaw09.FactGets': WHATEVER THE INPUT: true; the input reads as it did. -/
def factGetsSpec : ChangeSpec := { name := "factGets", fn := fun _ => fun
  | [d] => { results := [.lit (.bool true)], args := [d] }
  | _ => none }
def factGetsRow : OpenClaim := { program := "ytdckeflggcefbaa", sum := "a1acda0864c0d590faef3d1b727fc9159d8a41c8285861be9a718f287280bf20", func := "comptroller/comptrollerlaw09.FactGets", spec := "factGets", inPlace := ["internal/bytealg.abigen_runtime_cmpstring"], unfollowed := true, recurses := true, plainKeys := false, apart := false }
def FactGetsSaid : Prop := factGetsRow.holds Try.pinned (OpenSpec.ofChange factGetsSpec)

/-- ITS FALSE NEIGHBOUR: 'it returns false'. Refute it at one input. -/
def factGetsWrong : ChangeSpec := { name := "factGets", fn := fun _ => fun
  | [d] => { results := [.lit (.bool false)], args := [d] }
  | _ => none }
def FactGetsWrongFalsely : Prop := factGetsRow.holds Try.pinned (OpenSpec.ofChange factGetsWrong)

/- THE SECOND FORM. 'bulk': how many values and letters a reading holds, each counted each time it is reached (what is shared counts as often as it is met; a slice's spare places count too). A statement '..UptoSaid' is the law's where the arguments, and the package variables that the reading takes, are together of bulk at most 1048576: NARROWER than '..Said'. Prove '..Said' where nothing that the law and all that it calls make is longer than what came in: it says more and counts as full. Else prove '..UptoSaid'. A law counts once. -/
mutual
def uptoBulk {H : Type} : DataW H → Nat
  | .lit (.string bytes) => bytes.length + 1
  | .lit _ => 1
  | .nil => 1
  | .ptr d => uptoBulk d + 1
  | .slice elems spare => uptoBulkAll elems + uptoBulkAll spare + 1
  | .agg parts => uptoBulkAll parts + 1
  | .iface _ d => uptoBulk d + 1
  | .map entries => uptoBulkEntries entries + 1
  | .held _ => 1
def uptoBulkAll {H : Type} : List (DataW H) → Nat
  | [] => 0
  | d :: r => uptoBulk d + uptoBulkAll r
def uptoBulkEntries {H : Type} : List (Lit × DataW H) → Nat
  | [] => 0
  | x :: r => uptoBulkEntry x + uptoBulkEntries r
def uptoBulkEntry {H : Type} : Lit × DataW H → Nat
  | (.string bytes, d) => bytes.length + uptoBulk d + 1
  | (_, d) => uptoBulk d + 1
 end
def uptoSmall : (H : Type) → List (DataW H) → Bool := fun _ ds => decide (uptoBulkAll ds ≤ 1048576)
def OpenSpec.upto (s : _root_.Go.ChangeSpec) : _root_.Go.OpenSpec := { _root_.Go.OpenSpec.ofChange s with cond := some uptoSmall }

/-- 'comptrollerlaw09.FactCalls', WHERE WHAT IT READS IS OF BULK AT MOST 1048576: true; the input reads as it did. -/
def factCallsUptoRow : OpenClaim := { program := "ytdckeflggcefbaa", sum := "a1acda0864c0d590faef3d1b727fc9159d8a41c8285861be9a718f287280bf20", func := "comptroller/comptrollerlaw09.FactCalls", spec := "factCalls", inPlace := ["internal/bytealg.abigen_runtime_cmpstring"], unfollowed := true, recurses := true, plainKeys := false, apart := false, narrowed := true }
def FactCallsUptoSaid : Prop := factCallsUptoRow.holds Try.pinned (OpenSpec.upto factCallsSpec)

/-- 'comptrollerlaw09.FactOrder', WHERE WHAT IT READS IS OF BULK AT MOST 1048576: true; the input reads as it did. -/
def factOrderUptoRow : OpenClaim := { program := "ytdckeflggcefbaa", sum := "a1acda0864c0d590faef3d1b727fc9159d8a41c8285861be9a718f287280bf20", func := "comptroller/comptrollerlaw09.FactOrder", spec := "factOrder", inPlace := ["internal/bytealg.abigen_runtime_cmpstring"], unfollowed := true, recurses := true, plainKeys := false, apart := false, narrowed := true }
def FactOrderUptoSaid : Prop := factOrderUptoRow.holds Try.pinned (OpenSpec.upto factOrderSpec)

/-- 'comptrollerlaw09.FactGets', WHERE WHAT IT READS IS OF BULK AT MOST 1048576: true; the input reads as it did. -/
def factGetsUptoRow : OpenClaim := { program := "ytdckeflggcefbaa", sum := "a1acda0864c0d590faef3d1b727fc9159d8a41c8285861be9a718f287280bf20", func := "comptroller/comptrollerlaw09.FactGets", spec := "factGets", inPlace := ["internal/bytealg.abigen_runtime_cmpstring"], unfollowed := true, recurses := true, plainKeys := false, apart := false, narrowed := true }
def FactGetsUptoSaid : Prop := factGetsUptoRow.holds Try.pinned (OpenSpec.upto factGetsSpec)

end Rows
end Go.Proofs.Ytdckeflggcefbaa
