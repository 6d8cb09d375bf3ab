/-
  No cell of these rows narrows 'for every input' (looked for: loops, veiled, ifaces, maps, wideKeys, modest, calm, conditions, laid).
  DERIVED. THE GIVEN ROWS OF THIS SEAT. 3 by the template 'for every input the law returns true; each argument reads behind the call as it read before'; 0 by the template 'total and deterministic' (their statements: YtoagghehabceaaaTotals.lean).
  GIVEN WITH THE SEED: the statements are not yours to turn. If you find one false, say at which input.
  Laid BY PROGRAM, IN A SANDBOX (cutbox-rows.mjs): the forced cells as the released guide's own fill.sh prints them over the translation 121ca9f1fb5a239b… (all of the seat's roots in one cut). By AI agents, Wed Nov 11 2026. No macro, syntax, notation, axiom, sorry.
-/
import Derived.Test.YtoagghehabceaaaChecked
import GoSem.Claim
import GoSem.ClaimJoined
import GoSem.ClaimMapViews
import Derived.JoinedTies
import Derived.KernelRfl
namespace Go.Proofs.Ytoagghehabceaaa
/- THE CELL 'sum', in the pinned program and in every row, IS THE sha256 OF THE DUMP (.gsa) THAT YtoagghehabceaaaProg.lean LOADS. Nothing in Lean hashes anything: it is a label: what it is worth is what the hold of that sum in a sandbox is worth. -/
noncomputable def Try.pinned : Pinned := { name := "ytoagghehabceaaa", sum := "121ca9f1fb5a239b87a0566696e5553e66733fc407d991d12d738e7c9032d4dd", checked := Try.checked }
namespace Rows
def none {H : Type} : Left H := { results := [], args := [] }

/-- 'sennitlaw31.LossyChanges': WHATEVER THE INPUT: true; the input reads as it did. -/
def lossyChangesSpec : ChangeSpec := { name := "lossyChanges", fn := fun _ => fun
  | [d1, d2, d3] => { results := [.lit (.bool true)], args := [d1, d2, d3] }
  | _ => none }
def lossyChangesRow : OpenClaim := { program := "ytoagghehabceaaa", sum := "121ca9f1fb5a239b87a0566696e5553e66733fc407d991d12d738e7c9032d4dd", func := "sennit/sennitlaw31.LossyChanges", spec := "lossyChanges", unfollowed := true, recurses := true, apart := false }
def LossyChangesSaid : Prop := lossyChangesRow.holds Try.pinned (OpenSpec.ofChange lossyChangesSpec)

/-- ITS FALSE NEIGHBOUR: 'it returns false'. Refute it at one input. -/
def lossyChangesWrong : ChangeSpec := { name := "lossyChanges", fn := fun _ => fun
  | [d1, d2, d3] => { results := [.lit (.bool false)], args := [d1, d2, d3] }
  | _ => none }
def LossyChangesWrongFalsely : Prop := lossyChangesRow.holds Try.pinned (OpenSpec.ofChange lossyChangesWrong)

/-- 'sennitlaw31.LossyKeeps': WHATEVER THE INPUT: true; the input reads as it did. -/
def lossyKeepsSpec : ChangeSpec := { name := "lossyKeeps", fn := fun _ => fun
  | [d] => { results := [.lit (.bool true)], args := [d] }
  | _ => none }
def lossyKeepsRow : OpenClaim := { program := "ytoagghehabceaaa", sum := "121ca9f1fb5a239b87a0566696e5553e66733fc407d991d12d738e7c9032d4dd", func := "sennit/sennitlaw31.LossyKeeps", spec := "lossyKeeps", unfollowed := true, recurses := true, apart := false }
def LossyKeepsSaid : Prop := lossyKeepsRow.holds Try.pinned (OpenSpec.ofChange lossyKeepsSpec)

/-- ITS FALSE NEIGHBOUR: 'it returns false'. Refute it at one input. -/
def lossyKeepsWrong : ChangeSpec := { name := "lossyKeeps", fn := fun _ => fun
  | [d] => { results := [.lit (.bool false)], args := [d] }
  | _ => none }
def LossyKeepsWrongFalsely : Prop := lossyKeepsRow.holds Try.pinned (OpenSpec.ofChange lossyKeepsWrong)

/-- 'sennitlaw31.LossyTwice': WHATEVER THE INPUT: true; the input reads as it did. -/
def lossyTwiceSpec : ChangeSpec := { name := "lossyTwice", fn := fun _ => fun
  | [d1, d2, d3] => { results := [.lit (.bool true)], args := [d1, d2, d3] }
  | _ => none }
def lossyTwiceRow : OpenClaim := { program := "ytoagghehabceaaa", sum := "121ca9f1fb5a239b87a0566696e5553e66733fc407d991d12d738e7c9032d4dd", func := "sennit/sennitlaw31.LossyTwice", spec := "lossyTwice", unfollowed := true, recurses := true, apart := false }
def LossyTwiceSaid : Prop := lossyTwiceRow.holds Try.pinned (OpenSpec.ofChange lossyTwiceSpec)

/-- ITS FALSE NEIGHBOUR: 'it returns false'. Refute it at one input. -/
def lossyTwiceWrong : ChangeSpec := { name := "lossyTwice", fn := fun _ => fun
  | [d1, d2, d3] => { results := [.lit (.bool false)], args := [d1, d2, d3] }
  | _ => none }
def LossyTwiceWrongFalsely : Prop := lossyTwiceRow.holds Try.pinned (OpenSpec.ofChange lossyTwiceWrong)

/- THE SECOND FORM. 'bulk': how many values and letters a reading holds, each counted each time it is reached (what is shared counts as often as it is met; a slice's spare places count too). A statement '..UptoSaid' is the law's where the arguments, and the package variables that the reading takes, are together of bulk at most 1048576: NARROWER than '..Said'. Prove '..Said' where nothing that the law and all that it calls make is longer than what came in: it says more and counts as full. Else prove '..UptoSaid'. A law counts once. -/
mutual
def uptoBulk {H : Type} : DataW H → Nat
  | .lit (.string bytes) => bytes.length + 1
  | .lit _ => 1
  | .nil => 1
  | .ptr d => uptoBulk d + 1
  | .slice elems spare => uptoBulkAll elems + uptoBulkAll spare + 1
  | .agg parts => uptoBulkAll parts + 1
  | .iface _ d => uptoBulk d + 1
  | .map entries => uptoBulkEntries entries + 1
  | .held _ => 1
def uptoBulkAll {H : Type} : List (DataW H) → Nat
  | [] => 0
  | d :: r => uptoBulk d + uptoBulkAll r
def uptoBulkEntries {H : Type} : List (Lit × DataW H) → Nat
  | [] => 0
  | x :: r => uptoBulkEntry x + uptoBulkEntries r
def uptoBulkEntry {H : Type} : Lit × DataW H → Nat
  | (.string bytes, d) => bytes.length + uptoBulk d + 1
  | (_, d) => uptoBulk d + 1
 end
def uptoSmall : (H : Type) → List (DataW H) → Bool := fun _ ds => decide (uptoBulkAll ds ≤ 1048576)
def OpenSpec.upto (s : _root_.Go.ChangeSpec) : _root_.Go.OpenSpec := { _root_.Go.OpenSpec.ofChange s with cond := some uptoSmall }

/-- 'sennitlaw31.LossyChanges', WHERE WHAT IT READS IS OF BULK AT MOST 1048576: true; the input reads as it did. -/
def lossyChangesUptoRow : OpenClaim := { program := "ytoagghehabceaaa", sum := "121ca9f1fb5a239b87a0566696e5553e66733fc407d991d12d738e7c9032d4dd", func := "sennit/sennitlaw31.LossyChanges", spec := "lossyChanges", unfollowed := true, recurses := true, apart := false, narrowed := true }
def LossyChangesUptoSaid : Prop := lossyChangesUptoRow.holds Try.pinned (OpenSpec.upto lossyChangesSpec)

/-- 'sennitlaw31.LossyKeeps', WHERE WHAT IT READS IS OF BULK AT MOST 1048576: true; the input reads as it did. -/
def lossyKeepsUptoRow : OpenClaim := { program := "ytoagghehabceaaa", sum := "121ca9f1fb5a239b87a0566696e5553e66733fc407d991d12d738e7c9032d4dd", func := "sennit/sennitlaw31.LossyKeeps", spec := "lossyKeeps", unfollowed := true, recurses := true, apart := false, narrowed := true }
def LossyKeepsUptoSaid : Prop := lossyKeepsUptoRow.holds Try.pinned (OpenSpec.upto lossyKeepsSpec)

/-- 'sennitlaw31.LossyTwice', WHERE WHAT IT READS IS OF BULK AT MOST 1048576: true; the input reads as it did. -/
def lossyTwiceUptoRow : OpenClaim := { program := "ytoagghehabceaaa", sum := "121ca9f1fb5a239b87a0566696e5553e66733fc407d991d12d738e7c9032d4dd", func := "sennit/sennitlaw31.LossyTwice", spec := "lossyTwice", unfollowed := true, recurses := true, apart := false, narrowed := true }
def LossyTwiceUptoSaid : Prop := lossyTwiceUptoRow.holds Try.pinned (OpenSpec.upto lossyTwiceSpec)

end Rows
end Go.Proofs.Ytoagghehabceaaa
