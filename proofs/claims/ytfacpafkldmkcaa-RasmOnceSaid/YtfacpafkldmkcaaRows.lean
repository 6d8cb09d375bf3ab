/-
  No cell of these rows narrows 'for every input' (looked for: loops, veiled, ifaces, maps, wideKeys, modest, calm, conditions, laid).
  DERIVED. THE GIVEN ROWS OF THIS SEAT. 3 by the template 'for every input the law returns true; each argument reads behind the call as it read before'; 0 by the template 'total and deterministic' (their statements: YtfacpafkldmkcaaTotals.lean).
  GIVEN WITH THE SEED: the statements are not yours to turn. If you find one false, say at which input.
  Laid BY PROGRAM, IN A SANDBOX (cutbox-rows.mjs): the forced cells as the released guide's own fill.sh prints them over the translation 57163b6a45a38f08… (all of the seat's roots in one cut). By AI agents, Wed Nov 11 2026. No macro, syntax, notation, axiom, sorry.
-/
import Derived.Test.YtfacpafkldmkcaaChecked
import GoSem.Claim
import GoSem.ClaimJoined
import GoSem.ClaimMapViews
import Derived.JoinedTies
import Derived.KernelRfl
namespace Go.Proofs.Ytfacpafkldmkcaa
/- THE CELL 'sum', in the pinned program and in every row, IS THE sha256 OF THE DUMP (.gsa) THAT YtfacpafkldmkcaaProg.lean LOADS. Nothing in Lean hashes anything: it is a label: what it is worth is what the hold of that sum in a sandbox is worth. -/
noncomputable def Try.pinned : Pinned := { name := "ytfacpafkldmkcaa", sum := "57163b6a45a38f084bf22c4911a35f1be28361ce2a9737461f53981b9a9e2b4f", checked := Try.checked }
namespace Rows
def none {H : Type} : Left H := { results := [], args := [] }

/-- 'sennitlaw24.RasmTakes': WHATEVER THE INPUT: true; the input reads as it did. -/
def rasmTakesSpec : ChangeSpec := { name := "rasmTakes", fn := fun _ => fun
  | [d1, d2, d3] => { results := [.lit (.bool true)], args := [d1, d2, d3] }
  | _ => none }
def rasmTakesRow : OpenClaim := { program := "ytfacpafkldmkcaa", sum := "57163b6a45a38f084bf22c4911a35f1be28361ce2a9737461f53981b9a9e2b4f", func := "sennit/sennitlaw24.RasmTakes", spec := "rasmTakes", apart := false }
def RasmTakesSaid : Prop := rasmTakesRow.holds Try.pinned (OpenSpec.ofChange rasmTakesSpec)

/-- ITS FALSE NEIGHBOUR: 'it returns false'. Refute it at one input. -/
def rasmTakesWrong : ChangeSpec := { name := "rasmTakes", fn := fun _ => fun
  | [d1, d2, d3] => { results := [.lit (.bool false)], args := [d1, d2, d3] }
  | _ => none }
def RasmTakesWrongFalsely : Prop := rasmTakesRow.holds Try.pinned (OpenSpec.ofChange rasmTakesWrong)

/-- 'sennitlaw24.RasmStream': WHATEVER THE INPUT: true; the input reads as it did. -/
def rasmStreamSpec : ChangeSpec := { name := "rasmStream", fn := fun _ => fun
  | [d1, d2] => { results := [.lit (.bool true)], args := [d1, d2] }
  | _ => none }
def rasmStreamRow : OpenClaim := { program := "ytfacpafkldmkcaa", sum := "57163b6a45a38f084bf22c4911a35f1be28361ce2a9737461f53981b9a9e2b4f", func := "sennit/sennitlaw24.RasmStream", spec := "rasmStream", apart := false }
def RasmStreamSaid : Prop := rasmStreamRow.holds Try.pinned (OpenSpec.ofChange rasmStreamSpec)

/-- ITS FALSE NEIGHBOUR: 'it returns false'. Refute it at one input. -/
def rasmStreamWrong : ChangeSpec := { name := "rasmStream", fn := fun _ => fun
  | [d1, d2] => { results := [.lit (.bool false)], args := [d1, d2] }
  | _ => none }
def RasmStreamWrongFalsely : Prop := rasmStreamRow.holds Try.pinned (OpenSpec.ofChange rasmStreamWrong)

/-- 'sennitlaw24.RasmOnce': WHATEVER THE INPUT: true; the input reads as it did. -/
def rasmOnceSpec : ChangeSpec := { name := "rasmOnce", fn := fun _ => fun
  | [d1, d2, d3] => { results := [.lit (.bool true)], args := [d1, d2, d3] }
  | _ => none }
def rasmOnceRow : OpenClaim := { program := "ytfacpafkldmkcaa", sum := "57163b6a45a38f084bf22c4911a35f1be28361ce2a9737461f53981b9a9e2b4f", func := "sennit/sennitlaw24.RasmOnce", spec := "rasmOnce", apart := false }
def RasmOnceSaid : Prop := rasmOnceRow.holds Try.pinned (OpenSpec.ofChange rasmOnceSpec)

/-- ITS FALSE NEIGHBOUR: 'it returns false'. Refute it at one input. -/
def rasmOnceWrong : ChangeSpec := { name := "rasmOnce", fn := fun _ => fun
  | [d1, d2, d3] => { results := [.lit (.bool false)], args := [d1, d2, d3] }
  | _ => none }
def RasmOnceWrongFalsely : Prop := rasmOnceRow.holds Try.pinned (OpenSpec.ofChange rasmOnceWrong)

/- THE SECOND FORM. 'bulk': how many values and letters a reading holds, each counted each time it is reached (what is shared counts as often as it is met; a slice's spare places count too). A statement '..UptoSaid' is the law's where the arguments, and the package variables that the reading takes, are together of bulk at most 1048576: NARROWER than '..Said'. Prove '..Said' where nothing that the law and all that it calls make is longer than what came in: it says more and counts as full. Else prove '..UptoSaid'. A law counts once. -/
mutual
def uptoBulk {H : Type} : DataW H → Nat
  | .lit (.string bytes) => bytes.length + 1
  | .lit _ => 1
  | .nil => 1
  | .ptr d => uptoBulk d + 1
  | .slice elems spare => uptoBulkAll elems + uptoBulkAll spare + 1
  | .agg parts => uptoBulkAll parts + 1
  | .iface _ d => uptoBulk d + 1
  | .map entries => uptoBulkEntries entries + 1
  | .held _ => 1
def uptoBulkAll {H : Type} : List (DataW H) → Nat
  | [] => 0
  | d :: r => uptoBulk d + uptoBulkAll r
def uptoBulkEntries {H : Type} : List (Lit × DataW H) → Nat
  | [] => 0
  | x :: r => uptoBulkEntry x + uptoBulkEntries r
def uptoBulkEntry {H : Type} : Lit × DataW H → Nat
  | (.string bytes, d) => bytes.length + uptoBulk d + 1
  | (_, d) => uptoBulk d + 1
 end
def uptoSmall : (H : Type) → List (DataW H) → Bool := fun _ ds => decide (uptoBulkAll ds ≤ 1048576)
def OpenSpec.upto (s : _root_.Go.ChangeSpec) : _root_.Go.OpenSpec := { _root_.Go.OpenSpec.ofChange s with cond := some uptoSmall }

/-- 'sennitlaw24.RasmTakes', WHERE WHAT IT READS IS OF BULK AT MOST 1048576: true; the input reads as it did. -/
def rasmTakesUptoRow : OpenClaim := { program := "ytfacpafkldmkcaa", sum := "57163b6a45a38f084bf22c4911a35f1be28361ce2a9737461f53981b9a9e2b4f", func := "sennit/sennitlaw24.RasmTakes", spec := "rasmTakes", apart := false, narrowed := true }
def RasmTakesUptoSaid : Prop := rasmTakesUptoRow.holds Try.pinned (OpenSpec.upto rasmTakesSpec)

/-- 'sennitlaw24.RasmStream', WHERE WHAT IT READS IS OF BULK AT MOST 1048576: true; the input reads as it did. -/
def rasmStreamUptoRow : OpenClaim := { program := "ytfacpafkldmkcaa", sum := "57163b6a45a38f084bf22c4911a35f1be28361ce2a9737461f53981b9a9e2b4f", func := "sennit/sennitlaw24.RasmStream", spec := "rasmStream", apart := false, narrowed := true }
def RasmStreamUptoSaid : Prop := rasmStreamUptoRow.holds Try.pinned (OpenSpec.upto rasmStreamSpec)

/-- 'sennitlaw24.RasmOnce', WHERE WHAT IT READS IS OF BULK AT MOST 1048576: true; the input reads as it did. -/
def rasmOnceUptoRow : OpenClaim := { program := "ytfacpafkldmkcaa", sum := "57163b6a45a38f084bf22c4911a35f1be28361ce2a9737461f53981b9a9e2b4f", func := "sennit/sennitlaw24.RasmOnce", spec := "rasmOnce", apart := false, narrowed := true }
def RasmOnceUptoSaid : Prop := rasmOnceUptoRow.holds Try.pinned (OpenSpec.upto rasmOnceSpec)

end Rows
end Go.Proofs.Ytfacpafkldmkcaa
