/-
  No cell of these rows narrows 'for every input' (looked for: loops, veiled, ifaces, maps, wideKeys, modest, calm, conditions, laid).
  DERIVED. THE GIVEN ROWS OF THIS SEAT. 4 by the template 'for every input the law returns true; each argument reads behind the call as it read before'; 0 by the template 'total and deterministic' (their statements: YtfllhedkgeljaaaTotals.lean).
  GIVEN WITH THE SEED: the statements are not yours to turn. If you find one false, say at which input.
  Laid BY PROGRAM, IN A SANDBOX (cutbox-rows.mjs): the forced cells as the released guide's own fill.sh prints them over the translation 1d9c41577ae0c641… (all of the seat's roots in one cut). By AI agents, Wed Nov 11 2026. No macro, syntax, notation, axiom, sorry.
-/
import Derived.Test.YtfllhedkgeljaaaChecked
import GoSem.Claim
import GoSem.ClaimJoined
import GoSem.ClaimMapViews
import Derived.JoinedTies
import Derived.KernelRfl
namespace Go.Proofs.Ytfllhedkgeljaaa
/- THE CELL 'sum', in the pinned program and in every row, IS THE sha256 OF THE DUMP (.gsa) THAT YtfllhedkgeljaaaProg.lean LOADS. Nothing in Lean hashes anything: it is a label: what it is worth is what the hold of that sum in a sandbox is worth. -/
noncomputable def Try.pinned : Pinned := { name := "ytfllhedkgeljaaa", sum := "1d9c41577ae0c64102c76cdd21c59c8361c62d53031d4c2c7e69d61d9074ccbd", checked := Try.checked }
namespace Rows
def none {H : Type} : Left H := { results := [], args := [] }

/-- 'sennitlaw11.SendqSends': WHATEVER THE INPUT: true; the input reads as it did. -/
def sendqSendsSpec : ChangeSpec := { name := "sendqSends", fn := fun _ => fun
  | [d1, d2, d3] => { results := [.lit (.bool true)], args := [d1, d2, d3] }
  | _ => none }
def sendqSendsRow : OpenClaim := { program := "ytfllhedkgeljaaa", sum := "1d9c41577ae0c64102c76cdd21c59c8361c62d53031d4c2c7e69d61d9074ccbd", func := "sennit/sennitlaw11.SendqSends", spec := "sendqSends", unfollowed := true, recurses := true, apart := false }
def SendqSendsSaid : Prop := sendqSendsRow.holds Try.pinned (OpenSpec.ofChange sendqSendsSpec)

/-- ITS FALSE NEIGHBOUR: 'it returns false'. Refute it at one input. -/
def sendqSendsWrong : ChangeSpec := { name := "sendqSends", fn := fun _ => fun
  | [d1, d2, d3] => { results := [.lit (.bool false)], args := [d1, d2, d3] }
  | _ => none }
def SendqSendsWrongFalsely : Prop := sendqSendsRow.holds Try.pinned (OpenSpec.ofChange sendqSendsWrong)

/-- 'sennitlaw11.SendqAcks': WHATEVER THE INPUT: true; the input reads as it did. -/
def sendqAcksSpec : ChangeSpec := { name := "sendqAcks", fn := fun _ => fun
  | [d1, d2, d3] => { results := [.lit (.bool true)], args := [d1, d2, d3] }
  | _ => none }
def sendqAcksRow : OpenClaim := { program := "ytfllhedkgeljaaa", sum := "1d9c41577ae0c64102c76cdd21c59c8361c62d53031d4c2c7e69d61d9074ccbd", func := "sennit/sennitlaw11.SendqAcks", spec := "sendqAcks", unfollowed := true, recurses := true, apart := false }
def SendqAcksSaid : Prop := sendqAcksRow.holds Try.pinned (OpenSpec.ofChange sendqAcksSpec)

/-- ITS FALSE NEIGHBOUR: 'it returns false'. Refute it at one input. -/
def sendqAcksWrong : ChangeSpec := { name := "sendqAcks", fn := fun _ => fun
  | [d1, d2, d3] => { results := [.lit (.bool false)], args := [d1, d2, d3] }
  | _ => none }
def SendqAcksWrongFalsely : Prop := sendqAcksRow.holds Try.pinned (OpenSpec.ofChange sendqAcksWrong)

/-- 'sennitlaw11.SendqKeeps': WHATEVER THE INPUT: true; the input reads as it did. -/
def sendqKeepsSpec : ChangeSpec := { name := "sendqKeeps", fn := fun _ => fun
  | [d] => { results := [.lit (.bool true)], args := [d] }
  | _ => none }
def sendqKeepsRow : OpenClaim := { program := "ytfllhedkgeljaaa", sum := "1d9c41577ae0c64102c76cdd21c59c8361c62d53031d4c2c7e69d61d9074ccbd", func := "sennit/sennitlaw11.SendqKeeps", spec := "sendqKeeps", unfollowed := true, recurses := true, apart := false }
def SendqKeepsSaid : Prop := sendqKeepsRow.holds Try.pinned (OpenSpec.ofChange sendqKeepsSpec)

/-- ITS FALSE NEIGHBOUR: 'it returns false'. Refute it at one input. -/
def sendqKeepsWrong : ChangeSpec := { name := "sendqKeeps", fn := fun _ => fun
  | [d] => { results := [.lit (.bool false)], args := [d] }
  | _ => none }
def SendqKeepsWrongFalsely : Prop := sendqKeepsRow.holds Try.pinned (OpenSpec.ofChange sendqKeepsWrong)

/-- 'sennitlaw11.SendqEnds': WHATEVER THE INPUT: true; the input reads as it did. -/
def sendqEndsSpec : ChangeSpec := { name := "sendqEnds", fn := fun _ => fun
  | [d] => { results := [.lit (.bool true)], args := [d] }
  | _ => none }
def sendqEndsRow : OpenClaim := { program := "ytfllhedkgeljaaa", sum := "1d9c41577ae0c64102c76cdd21c59c8361c62d53031d4c2c7e69d61d9074ccbd", func := "sennit/sennitlaw11.SendqEnds", spec := "sendqEnds", unfollowed := true, recurses := true, apart := false }
def SendqEndsSaid : Prop := sendqEndsRow.holds Try.pinned (OpenSpec.ofChange sendqEndsSpec)

/-- ITS FALSE NEIGHBOUR: 'it returns false'. Refute it at one input. -/
def sendqEndsWrong : ChangeSpec := { name := "sendqEnds", fn := fun _ => fun
  | [d] => { results := [.lit (.bool false)], args := [d] }
  | _ => none }
def SendqEndsWrongFalsely : Prop := sendqEndsRow.holds Try.pinned (OpenSpec.ofChange sendqEndsWrong)

/- THE SECOND FORM. 'bulk': how many values and letters a reading holds, each counted each time it is reached (what is shared counts as often as it is met; a slice's spare places count too). A statement '..UptoSaid' is the law's where the arguments, and the package variables that the reading takes, are together of bulk at most 1048576: NARROWER than '..Said'. Prove '..Said' where nothing that the law and all that it calls make is longer than what came in: it says more and counts as full. Else prove '..UptoSaid'. A law counts once. -/
mutual
def uptoBulk {H : Type} : DataW H → Nat
  | .lit (.string bytes) => bytes.length + 1
  | .lit _ => 1
  | .nil => 1
  | .ptr d => uptoBulk d + 1
  | .slice elems spare => uptoBulkAll elems + uptoBulkAll spare + 1
  | .agg parts => uptoBulkAll parts + 1
  | .iface _ d => uptoBulk d + 1
  | .map entries => uptoBulkEntries entries + 1
  | .held _ => 1
def uptoBulkAll {H : Type} : List (DataW H) → Nat
  | [] => 0
  | d :: r => uptoBulk d + uptoBulkAll r
def uptoBulkEntries {H : Type} : List (Lit × DataW H) → Nat
  | [] => 0
  | x :: r => uptoBulkEntry x + uptoBulkEntries r
def uptoBulkEntry {H : Type} : Lit × DataW H → Nat
  | (.string bytes, d) => bytes.length + uptoBulk d + 1
  | (_, d) => uptoBulk d + 1
 end
def uptoSmall : (H : Type) → List (DataW H) → Bool := fun _ ds => decide (uptoBulkAll ds ≤ 1048576)
def OpenSpec.upto (s : _root_.Go.ChangeSpec) : _root_.Go.OpenSpec := { _root_.Go.OpenSpec.ofChange s with cond := some uptoSmall }

/-- 'sennitlaw11.SendqSends', WHERE WHAT IT READS IS OF BULK AT MOST 1048576: true; the input reads as it did. -/
def sendqSendsUptoRow : OpenClaim := { program := "ytfllhedkgeljaaa", sum := "1d9c41577ae0c64102c76cdd21c59c8361c62d53031d4c2c7e69d61d9074ccbd", func := "sennit/sennitlaw11.SendqSends", spec := "sendqSends", unfollowed := true, recurses := true, apart := false, narrowed := true }
def SendqSendsUptoSaid : Prop := sendqSendsUptoRow.holds Try.pinned (OpenSpec.upto sendqSendsSpec)

/-- 'sennitlaw11.SendqAcks', WHERE WHAT IT READS IS OF BULK AT MOST 1048576: true; the input reads as it did. -/
def sendqAcksUptoRow : OpenClaim := { program := "ytfllhedkgeljaaa", sum := "1d9c41577ae0c64102c76cdd21c59c8361c62d53031d4c2c7e69d61d9074ccbd", func := "sennit/sennitlaw11.SendqAcks", spec := "sendqAcks", unfollowed := true, recurses := true, apart := false, narrowed := true }
def SendqAcksUptoSaid : Prop := sendqAcksUptoRow.holds Try.pinned (OpenSpec.upto sendqAcksSpec)

/-- 'sennitlaw11.SendqKeeps', WHERE WHAT IT READS IS OF BULK AT MOST 1048576: true; the input reads as it did. -/
def sendqKeepsUptoRow : OpenClaim := { program := "ytfllhedkgeljaaa", sum := "1d9c41577ae0c64102c76cdd21c59c8361c62d53031d4c2c7e69d61d9074ccbd", func := "sennit/sennitlaw11.SendqKeeps", spec := "sendqKeeps", unfollowed := true, recurses := true, apart := false, narrowed := true }
def SendqKeepsUptoSaid : Prop := sendqKeepsUptoRow.holds Try.pinned (OpenSpec.upto sendqKeepsSpec)

/-- 'sennitlaw11.SendqEnds', WHERE WHAT IT READS IS OF BULK AT MOST 1048576: true; the input reads as it did. -/
def sendqEndsUptoRow : OpenClaim := { program := "ytfllhedkgeljaaa", sum := "1d9c41577ae0c64102c76cdd21c59c8361c62d53031d4c2c7e69d61d9074ccbd", func := "sennit/sennitlaw11.SendqEnds", spec := "sendqEnds", unfollowed := true, recurses := true, apart := false, narrowed := true }
def SendqEndsUptoSaid : Prop := sendqEndsUptoRow.holds Try.pinned (OpenSpec.upto sendqEndsSpec)

end Rows
end Go.Proofs.Ytfllhedkgeljaaa
