/-
  No cell of these rows narrows 'for every input' (looked for: loops, veiled, ifaces, maps, wideKeys, modest, calm, conditions, laid).
  DERIVED. THE GIVEN ROWS OF THIS SEAT. 4 by the template 'for every input the law returns true; each argument reads behind the call as it read before'; 0 by the template 'total and deterministic' (their statements: YteciimdjlopbdaaTotals.lean).
  GIVEN WITH THE SEED: the statements are not yours to turn. If you find one false, say at which input.
  Laid BY PROGRAM, IN A SANDBOX (cutbox-rows.mjs): the forced cells as the released guide's own fill.sh prints them over the translation 181e57338836739b… (all of the seat's roots in one cut). By AI agents, Wed Nov 11 2026. No macro, syntax, notation, axiom, sorry.
-/
import Derived.Test.YteciimdjlopbdaaChecked
import GoSem.Claim
import GoSem.ClaimJoined
import GoSem.ClaimMapViews
import Derived.JoinedTies
import Derived.KernelRfl
namespace Go.Proofs.Yteciimdjlopbdaa
/- THE CELL 'sum', in the pinned program and in every row, IS THE sha256 OF THE DUMP (.gsa) THAT YteciimdjlopbdaaProg.lean LOADS. Nothing in Lean hashes anything: it is a label: what it is worth is what the hold of that sum in a sandbox is worth. -/
noncomputable def Try.pinned : Pinned := { name := "yteciimdjlopbdaa", sum := "181e57338836739b476ff64a69c79135d2761485f32030883e04b02a575b7ae3", checked := Try.checked }
namespace Rows
def none {H : Type} : Left H := { results := [], args := [] }

/-- 'sennitlaw13.ShakeStays': WHATEVER THE INPUT: true; the input reads as it did. -/
def shakeStaysSpec : ChangeSpec := { name := "shakeStays", fn := fun _ => fun
  | [d1, d2] => { results := [.lit (.bool true)], args := [d1, d2] }
  | _ => none }
def shakeStaysRow : OpenClaim := { program := "yteciimdjlopbdaa", sum := "181e57338836739b476ff64a69c79135d2761485f32030883e04b02a575b7ae3", func := "sennit/sennitlaw13.ShakeStays", spec := "shakeStays", apart := false }
def ShakeStaysSaid : Prop := shakeStaysRow.holds Try.pinned (OpenSpec.ofChange shakeStaysSpec)

/-- ITS FALSE NEIGHBOUR: 'it returns false'. Refute it at one input. -/
def shakeStaysWrong : ChangeSpec := { name := "shakeStays", fn := fun _ => fun
  | [d1, d2] => { results := [.lit (.bool false)], args := [d1, d2] }
  | _ => none }
def ShakeStaysWrongFalsely : Prop := shakeStaysRow.holds Try.pinned (OpenSpec.ofChange shakeStaysWrong)

/-- 'sennitlaw13.ShakeMeets': WHATEVER THE INPUT: true; the input reads as it did. -/
def shakeMeetsSpec : ChangeSpec := { name := "shakeMeets", fn := fun _ => fun
  | [d1, d2, d3] => { results := [.lit (.bool true)], args := [d1, d2, d3] }
  | _ => none }
def shakeMeetsRow : OpenClaim := { program := "yteciimdjlopbdaa", sum := "181e57338836739b476ff64a69c79135d2761485f32030883e04b02a575b7ae3", func := "sennit/sennitlaw13.ShakeMeets", spec := "shakeMeets", apart := false }
def ShakeMeetsSaid : Prop := shakeMeetsRow.holds Try.pinned (OpenSpec.ofChange shakeMeetsSpec)

/-- ITS FALSE NEIGHBOUR: 'it returns false'. Refute it at one input. -/
def shakeMeetsWrong : ChangeSpec := { name := "shakeMeets", fn := fun _ => fun
  | [d1, d2, d3] => { results := [.lit (.bool false)], args := [d1, d2, d3] }
  | _ => none }
def ShakeMeetsWrongFalsely : Prop := shakeMeetsRow.holds Try.pinned (OpenSpec.ofChange shakeMeetsWrong)

/-- 'sennitlaw13.ShakeSilent': WHATEVER THE INPUT: true; the input reads as it did. -/
def shakeSilentSpec : ChangeSpec := { name := "shakeSilent", fn := fun _ => fun
  | [d1, d2] => { results := [.lit (.bool true)], args := [d1, d2] }
  | _ => none }
def shakeSilentRow : OpenClaim := { program := "yteciimdjlopbdaa", sum := "181e57338836739b476ff64a69c79135d2761485f32030883e04b02a575b7ae3", func := "sennit/sennitlaw13.ShakeSilent", spec := "shakeSilent", apart := false }
def ShakeSilentSaid : Prop := shakeSilentRow.holds Try.pinned (OpenSpec.ofChange shakeSilentSpec)

/-- ITS FALSE NEIGHBOUR: 'it returns false'. Refute it at one input. -/
def shakeSilentWrong : ChangeSpec := { name := "shakeSilent", fn := fun _ => fun
  | [d1, d2] => { results := [.lit (.bool false)], args := [d1, d2] }
  | _ => none }
def ShakeSilentWrongFalsely : Prop := shakeSilentRow.holds Try.pinned (OpenSpec.ofChange shakeSilentWrong)

/-- 'sennitlaw13.ShakeRuns': WHATEVER THE INPUT: true; the input reads as it did. -/
def shakeRunsSpec : ChangeSpec := { name := "shakeRuns", fn := fun _ => fun
  | [d1, d2] => { results := [.lit (.bool true)], args := [d1, d2] }
  | _ => none }
def shakeRunsRow : OpenClaim := { program := "yteciimdjlopbdaa", sum := "181e57338836739b476ff64a69c79135d2761485f32030883e04b02a575b7ae3", func := "sennit/sennitlaw13.ShakeRuns", spec := "shakeRuns", apart := false }
def ShakeRunsSaid : Prop := shakeRunsRow.holds Try.pinned (OpenSpec.ofChange shakeRunsSpec)

/-- ITS FALSE NEIGHBOUR: 'it returns false'. Refute it at one input. -/
def shakeRunsWrong : ChangeSpec := { name := "shakeRuns", fn := fun _ => fun
  | [d1, d2] => { results := [.lit (.bool false)], args := [d1, d2] }
  | _ => none }
def ShakeRunsWrongFalsely : Prop := shakeRunsRow.holds Try.pinned (OpenSpec.ofChange shakeRunsWrong)

/- THE SECOND FORM. 'bulk': how many values and letters a reading holds, each counted each time it is reached (what is shared counts as often as it is met; a slice's spare places count too). A statement '..UptoSaid' is the law's where the arguments, and the package variables that the reading takes, are together of bulk at most 1048576: NARROWER than '..Said'. Prove '..Said' where nothing that the law and all that it calls make is longer than what came in: it says more and counts as full. Else prove '..UptoSaid'. A law counts once. -/
mutual
def uptoBulk {H : Type} : DataW H → Nat
  | .lit (.string bytes) => bytes.length + 1
  | .lit _ => 1
  | .nil => 1
  | .ptr d => uptoBulk d + 1
  | .slice elems spare => uptoBulkAll elems + uptoBulkAll spare + 1
  | .agg parts => uptoBulkAll parts + 1
  | .iface _ d => uptoBulk d + 1
  | .map entries => uptoBulkEntries entries + 1
  | .held _ => 1
def uptoBulkAll {H : Type} : List (DataW H) → Nat
  | [] => 0
  | d :: r => uptoBulk d + uptoBulkAll r
def uptoBulkEntries {H : Type} : List (Lit × DataW H) → Nat
  | [] => 0
  | x :: r => uptoBulkEntry x + uptoBulkEntries r
def uptoBulkEntry {H : Type} : Lit × DataW H → Nat
  | (.string bytes, d) => bytes.length + uptoBulk d + 1
  | (_, d) => uptoBulk d + 1
 end
def uptoSmall : (H : Type) → List (DataW H) → Bool := fun _ ds => decide (uptoBulkAll ds ≤ 1048576)
def OpenSpec.upto (s : _root_.Go.ChangeSpec) : _root_.Go.OpenSpec := { _root_.Go.OpenSpec.ofChange s with cond := some uptoSmall }

/-- 'sennitlaw13.ShakeStays', WHERE WHAT IT READS IS OF BULK AT MOST 1048576: true; the input reads as it did. -/
def shakeStaysUptoRow : OpenClaim := { program := "yteciimdjlopbdaa", sum := "181e57338836739b476ff64a69c79135d2761485f32030883e04b02a575b7ae3", func := "sennit/sennitlaw13.ShakeStays", spec := "shakeStays", apart := false, narrowed := true }
def ShakeStaysUptoSaid : Prop := shakeStaysUptoRow.holds Try.pinned (OpenSpec.upto shakeStaysSpec)

/-- 'sennitlaw13.ShakeMeets', WHERE WHAT IT READS IS OF BULK AT MOST 1048576: true; the input reads as it did. -/
def shakeMeetsUptoRow : OpenClaim := { program := "yteciimdjlopbdaa", sum := "181e57338836739b476ff64a69c79135d2761485f32030883e04b02a575b7ae3", func := "sennit/sennitlaw13.ShakeMeets", spec := "shakeMeets", apart := false, narrowed := true }
def ShakeMeetsUptoSaid : Prop := shakeMeetsUptoRow.holds Try.pinned (OpenSpec.upto shakeMeetsSpec)

/-- 'sennitlaw13.ShakeSilent', WHERE WHAT IT READS IS OF BULK AT MOST 1048576: true; the input reads as it did. -/
def shakeSilentUptoRow : OpenClaim := { program := "yteciimdjlopbdaa", sum := "181e57338836739b476ff64a69c79135d2761485f32030883e04b02a575b7ae3", func := "sennit/sennitlaw13.ShakeSilent", spec := "shakeSilent", apart := false, narrowed := true }
def ShakeSilentUptoSaid : Prop := shakeSilentUptoRow.holds Try.pinned (OpenSpec.upto shakeSilentSpec)

/-- 'sennitlaw13.ShakeRuns', WHERE WHAT IT READS IS OF BULK AT MOST 1048576: true; the input reads as it did. -/
def shakeRunsUptoRow : OpenClaim := { program := "yteciimdjlopbdaa", sum := "181e57338836739b476ff64a69c79135d2761485f32030883e04b02a575b7ae3", func := "sennit/sennitlaw13.ShakeRuns", spec := "shakeRuns", apart := false, narrowed := true }
def ShakeRunsUptoSaid : Prop := shakeRunsUptoRow.holds Try.pinned (OpenSpec.upto shakeRunsSpec)

end Rows
end Go.Proofs.Yteciimdjlopbdaa
