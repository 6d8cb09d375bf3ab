/-
  No cell of these rows narrows 'for every input' (looked for: loops, veiled, ifaces, maps, wideKeys, modest, calm, conditions, laid).
  DERIVED. THE GIVEN ROWS OF THIS SEAT. 4 by the template 'for every input the law returns true; each argument reads behind the call as it read before'; 0 by the template 'total and deterministic' (their statements: YtmngbbkpmaiecaaTotals.lean).
  GIVEN WITH THE SEED: the statements are not yours to turn. If you find one false, say at which input.
  Laid BY PROGRAM, IN A SANDBOX (cutbox-rows.mjs): the forced cells as the released guide's own fill.sh prints them over the translation b2e53482103e0e20… (all of the seat's roots in one cut). By AI agents, Wed Nov 11 2026. No macro, syntax, notation, axiom, sorry.
-/
import Derived.Test.YtmngbbkpmaiecaaChecked
import GoSem.Claim
import GoSem.ClaimJoined
import GoSem.ClaimMapViews
import Derived.JoinedTies
import Derived.KernelRfl
namespace Go.Proofs.Ytmngbbkpmaiecaa
/- THE CELL 'sum', in the pinned program and in every row, IS THE sha256 OF THE DUMP (.gsa) THAT YtmngbbkpmaiecaaProg.lean LOADS. Nothing in Lean hashes anything: it is a label: what it is worth is what the hold of that sum in a sandbox is worth. -/
noncomputable def Try.pinned : Pinned := { name := "ytmngbbkpmaiecaa", sum := "b2e53482103e0e200329846d9b005dca3c55c6f3fd75fb7a9da55204601a5bff", checked := Try.checked }
namespace Rows
def none {H : Type} : Left H := { results := [], args := [] }

/-- 'sennitlaw08.RttRuns': WHATEVER THE INPUT: true; the input reads as it did. -/
def rttRunsSpec : ChangeSpec := { name := "rttRuns", fn := fun _ => fun
  | [d1, d2] => { results := [.lit (.bool true)], args := [d1, d2] }
  | _ => none }
def rttRunsRow : OpenClaim := { program := "ytmngbbkpmaiecaa", sum := "b2e53482103e0e200329846d9b005dca3c55c6f3fd75fb7a9da55204601a5bff", func := "sennit/sennitlaw08.RttRuns", spec := "rttRuns", unfollowed := true, recurses := true, apart := false }
def RttRunsSaid : Prop := rttRunsRow.holds Try.pinned (OpenSpec.ofChange rttRunsSpec)

/-- ITS FALSE NEIGHBOUR: 'it returns false'. Refute it at one input. -/
def rttRunsWrong : ChangeSpec := { name := "rttRuns", fn := fun _ => fun
  | [d1, d2] => { results := [.lit (.bool false)], args := [d1, d2] }
  | _ => none }
def RttRunsWrongFalsely : Prop := rttRunsRow.holds Try.pinned (OpenSpec.ofChange rttRunsWrong)

/-- 'sennitlaw08.RttStays': WHATEVER THE INPUT: true; the input reads as it did. -/
def rttStaysSpec : ChangeSpec := { name := "rttStays", fn := fun _ => fun
  | [d1, d2] => { results := [.lit (.bool true)], args := [d1, d2] }
  | _ => none }
def rttStaysRow : OpenClaim := { program := "ytmngbbkpmaiecaa", sum := "b2e53482103e0e200329846d9b005dca3c55c6f3fd75fb7a9da55204601a5bff", func := "sennit/sennitlaw08.RttStays", spec := "rttStays", unfollowed := true, recurses := true, apart := false }
def RttStaysSaid : Prop := rttStaysRow.holds Try.pinned (OpenSpec.ofChange rttStaysSpec)

/-- ITS FALSE NEIGHBOUR: 'it returns false'. Refute it at one input. -/
def rttStaysWrong : ChangeSpec := { name := "rttStays", fn := fun _ => fun
  | [d1, d2] => { results := [.lit (.bool false)], args := [d1, d2] }
  | _ => none }
def RttStaysWrongFalsely : Prop := rttStaysRow.holds Try.pinned (OpenSpec.ofChange rttStaysWrong)

/-- 'sennitlaw08.RttSteady': WHATEVER THE INPUT: true; the input reads as it did. -/
def rttSteadySpec : ChangeSpec := { name := "rttSteady", fn := fun _ => fun
  | [d] => { results := [.lit (.bool true)], args := [d] }
  | _ => none }
def rttSteadyRow : OpenClaim := { program := "ytmngbbkpmaiecaa", sum := "b2e53482103e0e200329846d9b005dca3c55c6f3fd75fb7a9da55204601a5bff", func := "sennit/sennitlaw08.RttSteady", spec := "rttSteady", unfollowed := true, recurses := true, apart := false }
def RttSteadySaid : Prop := rttSteadyRow.holds Try.pinned (OpenSpec.ofChange rttSteadySpec)

/-- ITS FALSE NEIGHBOUR: 'it returns false'. Refute it at one input. -/
def rttSteadyWrong : ChangeSpec := { name := "rttSteady", fn := fun _ => fun
  | [d] => { results := [.lit (.bool false)], args := [d] }
  | _ => none }
def RttSteadyWrongFalsely : Prop := rttSteadyRow.holds Try.pinned (OpenSpec.ofChange rttSteadyWrong)

/-- 'sennitlaw08.RttParts': WHATEVER THE INPUT: true; the input reads as it did. -/
def rttPartsSpec : ChangeSpec := { name := "rttParts", fn := fun _ => fun
  | [d1, d2] => { results := [.lit (.bool true)], args := [d1, d2] }
  | _ => none }
def rttPartsRow : OpenClaim := { program := "ytmngbbkpmaiecaa", sum := "b2e53482103e0e200329846d9b005dca3c55c6f3fd75fb7a9da55204601a5bff", func := "sennit/sennitlaw08.RttParts", spec := "rttParts", unfollowed := true, recurses := true, apart := false }
def RttPartsSaid : Prop := rttPartsRow.holds Try.pinned (OpenSpec.ofChange rttPartsSpec)

/-- ITS FALSE NEIGHBOUR: 'it returns false'. Refute it at one input. -/
def rttPartsWrong : ChangeSpec := { name := "rttParts", fn := fun _ => fun
  | [d1, d2] => { results := [.lit (.bool false)], args := [d1, d2] }
  | _ => none }
def RttPartsWrongFalsely : Prop := rttPartsRow.holds Try.pinned (OpenSpec.ofChange rttPartsWrong)

/- THE SECOND FORM. 'bulk': how many values and letters a reading holds, each counted each time it is reached (what is shared counts as often as it is met; a slice's spare places count too). A statement '..UptoSaid' is the law's where the arguments, and the package variables that the reading takes, are together of bulk at most 1048576: NARROWER than '..Said'. Prove '..Said' where nothing that the law and all that it calls make is longer than what came in: it says more and counts as full. Else prove '..UptoSaid'. A law counts once. -/
mutual
def uptoBulk {H : Type} : DataW H → Nat
  | .lit (.string bytes) => bytes.length + 1
  | .lit _ => 1
  | .nil => 1
  | .ptr d => uptoBulk d + 1
  | .slice elems spare => uptoBulkAll elems + uptoBulkAll spare + 1
  | .agg parts => uptoBulkAll parts + 1
  | .iface _ d => uptoBulk d + 1
  | .map entries => uptoBulkEntries entries + 1
  | .held _ => 1
def uptoBulkAll {H : Type} : List (DataW H) → Nat
  | [] => 0
  | d :: r => uptoBulk d + uptoBulkAll r
def uptoBulkEntries {H : Type} : List (Lit × DataW H) → Nat
  | [] => 0
  | x :: r => uptoBulkEntry x + uptoBulkEntries r
def uptoBulkEntry {H : Type} : Lit × DataW H → Nat
  | (.string bytes, d) => bytes.length + uptoBulk d + 1
  | (_, d) => uptoBulk d + 1
 end
def uptoSmall : (H : Type) → List (DataW H) → Bool := fun _ ds => decide (uptoBulkAll ds ≤ 1048576)
def OpenSpec.upto (s : _root_.Go.ChangeSpec) : _root_.Go.OpenSpec := { _root_.Go.OpenSpec.ofChange s with cond := some uptoSmall }

/-- 'sennitlaw08.RttRuns', WHERE WHAT IT READS IS OF BULK AT MOST 1048576: true; the input reads as it did. -/
def rttRunsUptoRow : OpenClaim := { program := "ytmngbbkpmaiecaa", sum := "b2e53482103e0e200329846d9b005dca3c55c6f3fd75fb7a9da55204601a5bff", func := "sennit/sennitlaw08.RttRuns", spec := "rttRuns", unfollowed := true, recurses := true, apart := false, narrowed := true }
def RttRunsUptoSaid : Prop := rttRunsUptoRow.holds Try.pinned (OpenSpec.upto rttRunsSpec)

/-- 'sennitlaw08.RttStays', WHERE WHAT IT READS IS OF BULK AT MOST 1048576: true; the input reads as it did. -/
def rttStaysUptoRow : OpenClaim := { program := "ytmngbbkpmaiecaa", sum := "b2e53482103e0e200329846d9b005dca3c55c6f3fd75fb7a9da55204601a5bff", func := "sennit/sennitlaw08.RttStays", spec := "rttStays", unfollowed := true, recurses := true, apart := false, narrowed := true }
def RttStaysUptoSaid : Prop := rttStaysUptoRow.holds Try.pinned (OpenSpec.upto rttStaysSpec)

/-- 'sennitlaw08.RttSteady', WHERE WHAT IT READS IS OF BULK AT MOST 1048576: true; the input reads as it did. -/
def rttSteadyUptoRow : OpenClaim := { program := "ytmngbbkpmaiecaa", sum := "b2e53482103e0e200329846d9b005dca3c55c6f3fd75fb7a9da55204601a5bff", func := "sennit/sennitlaw08.RttSteady", spec := "rttSteady", unfollowed := true, recurses := true, apart := false, narrowed := true }
def RttSteadyUptoSaid : Prop := rttSteadyUptoRow.holds Try.pinned (OpenSpec.upto rttSteadySpec)

/-- 'sennitlaw08.RttParts', WHERE WHAT IT READS IS OF BULK AT MOST 1048576: true; the input reads as it did. -/
def rttPartsUptoRow : OpenClaim := { program := "ytmngbbkpmaiecaa", sum := "b2e53482103e0e200329846d9b005dca3c55c6f3fd75fb7a9da55204601a5bff", func := "sennit/sennitlaw08.RttParts", spec := "rttParts", unfollowed := true, recurses := true, apart := false, narrowed := true }
def RttPartsUptoSaid : Prop := rttPartsUptoRow.holds Try.pinned (OpenSpec.upto rttPartsSpec)

end Rows
end Go.Proofs.Ytmngbbkpmaiecaa
