/-
  No cell of these rows narrows 'for every input' (looked for: loops, veiled, ifaces, maps, wideKeys, modest, calm, conditions, laid).
  DERIVED. THE GIVEN ROWS OF THIS SEAT. 4 by the template 'for every input the law returns true; each argument reads behind the call as it read before'; 0 by the template 'total and deterministic' (their statements: YtajepcfopemboaaTotals.lean).
  GIVEN WITH THE SEED: the statements are not yours to turn. If you find one false, say at which input.
  Laid BY PROGRAM, IN A SANDBOX (cutbox-rows.mjs): the forced cells as the released guide's own fill.sh prints them over the translation 3d93822301365484… (all of the seat's roots in one cut). By AI agents, Wed Nov 11 2026. No macro, syntax, notation, axiom, sorry.
-/
import Derived.Test.YtajepcfopemboaaChecked
import GoSem.Claim
import GoSem.ClaimJoined
import GoSem.ClaimMapViews
import Derived.JoinedTies
import Derived.KernelRfl
namespace Go.Proofs.Ytajepcfopemboaa
/- THE CELL 'sum', in the pinned program and in every row, IS THE sha256 OF THE DUMP (.gsa) THAT YtajepcfopemboaaProg.lean LOADS. Nothing in Lean hashes anything: it is a label: what it is worth is what the hold of that sum in a sandbox is worth. -/
noncomputable def Try.pinned : Pinned := { name := "ytajepcfopemboaa", sum := "3d938223013654842084b2aa5c7765dd0c9708eb8f26e43b2299973775010f6f", checked := Try.checked }
namespace Rows
def none {H : Type} : Left H := { results := [], args := [] }

/-- 'sennitlaw10.AimdRuns': WHATEVER THE INPUT: true; the input reads as it did. -/
def aimdRunsSpec : ChangeSpec := { name := "aimdRuns", fn := fun _ => fun
  | [d1, d2, d3] => { results := [.lit (.bool true)], args := [d1, d2, d3] }
  | _ => none }
def aimdRunsRow : OpenClaim := { program := "ytajepcfopemboaa", sum := "3d938223013654842084b2aa5c7765dd0c9708eb8f26e43b2299973775010f6f", func := "sennit/sennitlaw10.AimdRuns", spec := "aimdRuns", unfollowed := true, recurses := true, apart := false }
def AimdRunsSaid : Prop := aimdRunsRow.holds Try.pinned (OpenSpec.ofChange aimdRunsSpec)

/-- ITS FALSE NEIGHBOUR: 'it returns false'. Refute it at one input. -/
def aimdRunsWrong : ChangeSpec := { name := "aimdRuns", fn := fun _ => fun
  | [d1, d2, d3] => { results := [.lit (.bool false)], args := [d1, d2, d3] }
  | _ => none }
def AimdRunsWrongFalsely : Prop := aimdRunsRow.holds Try.pinned (OpenSpec.ofChange aimdRunsWrong)

/-- 'sennitlaw10.AimdStays': WHATEVER THE INPUT: true; the input reads as it did. -/
def aimdStaysSpec : ChangeSpec := { name := "aimdStays", fn := fun _ => fun
  | [d1, d2] => { results := [.lit (.bool true)], args := [d1, d2] }
  | _ => none }
def aimdStaysRow : OpenClaim := { program := "ytajepcfopemboaa", sum := "3d938223013654842084b2aa5c7765dd0c9708eb8f26e43b2299973775010f6f", func := "sennit/sennitlaw10.AimdStays", spec := "aimdStays", unfollowed := true, recurses := true, apart := false }
def AimdStaysSaid : Prop := aimdStaysRow.holds Try.pinned (OpenSpec.ofChange aimdStaysSpec)

/-- ITS FALSE NEIGHBOUR: 'it returns false'. Refute it at one input. -/
def aimdStaysWrong : ChangeSpec := { name := "aimdStays", fn := fun _ => fun
  | [d1, d2] => { results := [.lit (.bool false)], args := [d1, d2] }
  | _ => none }
def AimdStaysWrongFalsely : Prop := aimdStaysRow.holds Try.pinned (OpenSpec.ofChange aimdStaysWrong)

/-- 'sennitlaw10.AimdGrows': WHATEVER THE INPUT: true; the input reads as it did. -/
def aimdGrowsSpec : ChangeSpec := { name := "aimdGrows", fn := fun _ => fun
  | [d] => { results := [.lit (.bool true)], args := [d] }
  | _ => none }
def aimdGrowsRow : OpenClaim := { program := "ytajepcfopemboaa", sum := "3d938223013654842084b2aa5c7765dd0c9708eb8f26e43b2299973775010f6f", func := "sennit/sennitlaw10.AimdGrows", spec := "aimdGrows", unfollowed := true, recurses := true, apart := false }
def AimdGrowsSaid : Prop := aimdGrowsRow.holds Try.pinned (OpenSpec.ofChange aimdGrowsSpec)

/-- ITS FALSE NEIGHBOUR: 'it returns false'. Refute it at one input. -/
def aimdGrowsWrong : ChangeSpec := { name := "aimdGrows", fn := fun _ => fun
  | [d] => { results := [.lit (.bool false)], args := [d] }
  | _ => none }
def AimdGrowsWrongFalsely : Prop := aimdGrowsRow.holds Try.pinned (OpenSpec.ofChange aimdGrowsWrong)

/-- 'sennitlaw10.AimdFree': WHATEVER THE INPUT: true; the input reads as it did. -/
def aimdFreeSpec : ChangeSpec := { name := "aimdFree", fn := fun _ => fun
  | [d1, d2] => { results := [.lit (.bool true)], args := [d1, d2] }
  | _ => none }
def aimdFreeRow : OpenClaim := { program := "ytajepcfopemboaa", sum := "3d938223013654842084b2aa5c7765dd0c9708eb8f26e43b2299973775010f6f", func := "sennit/sennitlaw10.AimdFree", spec := "aimdFree", unfollowed := true, recurses := true, apart := false }
def AimdFreeSaid : Prop := aimdFreeRow.holds Try.pinned (OpenSpec.ofChange aimdFreeSpec)

/-- ITS FALSE NEIGHBOUR: 'it returns false'. Refute it at one input. -/
def aimdFreeWrong : ChangeSpec := { name := "aimdFree", fn := fun _ => fun
  | [d1, d2] => { results := [.lit (.bool false)], args := [d1, d2] }
  | _ => none }
def AimdFreeWrongFalsely : Prop := aimdFreeRow.holds Try.pinned (OpenSpec.ofChange aimdFreeWrong)

/- THE SECOND FORM. 'bulk': how many values and letters a reading holds, each counted each time it is reached (what is shared counts as often as it is met; a slice's spare places count too). A statement '..UptoSaid' is the law's where the arguments, and the package variables that the reading takes, are together of bulk at most 1048576: NARROWER than '..Said'. Prove '..Said' where nothing that the law and all that it calls make is longer than what came in: it says more and counts as full. Else prove '..UptoSaid'. A law counts once. -/
mutual
def uptoBulk {H : Type} : DataW H → Nat
  | .lit (.string bytes) => bytes.length + 1
  | .lit _ => 1
  | .nil => 1
  | .ptr d => uptoBulk d + 1
  | .slice elems spare => uptoBulkAll elems + uptoBulkAll spare + 1
  | .agg parts => uptoBulkAll parts + 1
  | .iface _ d => uptoBulk d + 1
  | .map entries => uptoBulkEntries entries + 1
  | .held _ => 1
def uptoBulkAll {H : Type} : List (DataW H) → Nat
  | [] => 0
  | d :: r => uptoBulk d + uptoBulkAll r
def uptoBulkEntries {H : Type} : List (Lit × DataW H) → Nat
  | [] => 0
  | x :: r => uptoBulkEntry x + uptoBulkEntries r
def uptoBulkEntry {H : Type} : Lit × DataW H → Nat
  | (.string bytes, d) => bytes.length + uptoBulk d + 1
  | (_, d) => uptoBulk d + 1
 end
def uptoSmall : (H : Type) → List (DataW H) → Bool := fun _ ds => decide (uptoBulkAll ds ≤ 1048576)
def OpenSpec.upto (s : _root_.Go.ChangeSpec) : _root_.Go.OpenSpec := { _root_.Go.OpenSpec.ofChange s with cond := some uptoSmall }

/-- 'sennitlaw10.AimdRuns', WHERE WHAT IT READS IS OF BULK AT MOST 1048576: true; the input reads as it did. -/
def aimdRunsUptoRow : OpenClaim := { program := "ytajepcfopemboaa", sum := "3d938223013654842084b2aa5c7765dd0c9708eb8f26e43b2299973775010f6f", func := "sennit/sennitlaw10.AimdRuns", spec := "aimdRuns", unfollowed := true, recurses := true, apart := false, narrowed := true }
def AimdRunsUptoSaid : Prop := aimdRunsUptoRow.holds Try.pinned (OpenSpec.upto aimdRunsSpec)

/-- 'sennitlaw10.AimdStays', WHERE WHAT IT READS IS OF BULK AT MOST 1048576: true; the input reads as it did. -/
def aimdStaysUptoRow : OpenClaim := { program := "ytajepcfopemboaa", sum := "3d938223013654842084b2aa5c7765dd0c9708eb8f26e43b2299973775010f6f", func := "sennit/sennitlaw10.AimdStays", spec := "aimdStays", unfollowed := true, recurses := true, apart := false, narrowed := true }
def AimdStaysUptoSaid : Prop := aimdStaysUptoRow.holds Try.pinned (OpenSpec.upto aimdStaysSpec)

/-- 'sennitlaw10.AimdGrows', WHERE WHAT IT READS IS OF BULK AT MOST 1048576: true; the input reads as it did. -/
def aimdGrowsUptoRow : OpenClaim := { program := "ytajepcfopemboaa", sum := "3d938223013654842084b2aa5c7765dd0c9708eb8f26e43b2299973775010f6f", func := "sennit/sennitlaw10.AimdGrows", spec := "aimdGrows", unfollowed := true, recurses := true, apart := false, narrowed := true }
def AimdGrowsUptoSaid : Prop := aimdGrowsUptoRow.holds Try.pinned (OpenSpec.upto aimdGrowsSpec)

/-- 'sennitlaw10.AimdFree', WHERE WHAT IT READS IS OF BULK AT MOST 1048576: true; the input reads as it did. -/
def aimdFreeUptoRow : OpenClaim := { program := "ytajepcfopemboaa", sum := "3d938223013654842084b2aa5c7765dd0c9708eb8f26e43b2299973775010f6f", func := "sennit/sennitlaw10.AimdFree", spec := "aimdFree", unfollowed := true, recurses := true, apart := false, narrowed := true }
def AimdFreeUptoSaid : Prop := aimdFreeUptoRow.holds Try.pinned (OpenSpec.upto aimdFreeSpec)

end Rows
end Go.Proofs.Ytajepcfopemboaa
