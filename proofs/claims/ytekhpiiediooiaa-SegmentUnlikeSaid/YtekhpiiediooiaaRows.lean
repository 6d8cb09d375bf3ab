/-
  No cell of these rows narrows 'for every input' (looked for: loops, veiled, ifaces, maps, wideKeys, modest, calm, conditions, laid).
  DERIVED. THE GIVEN ROWS OF THIS SEAT. 4 by the template 'for every input the law returns true; each argument reads behind the call as it read before'; 0 by the template 'total and deterministic' (their statements: YtekhpiiediooiaaTotals.lean).
  GIVEN WITH THE SEED: the statements are not yours to turn. If you find one false, say at which input.
  Laid BY PROGRAM, IN A SANDBOX (cutbox-rows.mjs): the forced cells as the released guide's own fill.sh prints them over the translation c764ee936c5d1633… (all of the seat's roots in one cut). By AI agents, Wed Nov 11 2026. No macro, syntax, notation, axiom, sorry.
-/
import Derived.Test.YtekhpiiediooiaaChecked
import GoSem.Claim
import GoSem.ClaimJoined
import GoSem.ClaimMapViews
import Derived.JoinedTies
import Derived.KernelRfl
namespace Go.Proofs.Ytekhpiiediooiaa
/- THE CELL 'sum', in the pinned program and in every row, IS THE sha256 OF THE DUMP (.gsa) THAT YtekhpiiediooiaaProg.lean LOADS. Nothing in Lean hashes anything: it is a label: what it is worth is what the hold of that sum in a sandbox is worth. -/
noncomputable def Try.pinned : Pinned := { name := "ytekhpiiediooiaa", sum := "c764ee936c5d163356a8d8375f0aefa5bf03b1deecd1634d80a78e0b5aa968e9", checked := Try.checked }
namespace Rows
def none {H : Type} : Left H := { results := [], args := [] }

/-- 'sennitlaw07.SegmentPuts': WHATEVER THE INPUT: true; the input reads as it did. -/
def segmentPutsSpec : ChangeSpec := { name := "segmentPuts", fn := fun _ => fun
  | [d1, d2, d3] => { results := [.lit (.bool true)], args := [d1, d2, d3] }
  | _ => none }
def segmentPutsRow : OpenClaim := { program := "ytekhpiiediooiaa", sum := "c764ee936c5d163356a8d8375f0aefa5bf03b1deecd1634d80a78e0b5aa968e9", func := "sennit/sennitlaw07.SegmentPuts", spec := "segmentPuts", unfollowed := true, recurses := true, apart := false }
def SegmentPutsSaid : Prop := segmentPutsRow.holds Try.pinned (OpenSpec.ofChange segmentPutsSpec)

/-- ITS FALSE NEIGHBOUR: 'it returns false'. Refute it at one input. -/
def segmentPutsWrong : ChangeSpec := { name := "segmentPuts", fn := fun _ => fun
  | [d1, d2, d3] => { results := [.lit (.bool false)], args := [d1, d2, d3] }
  | _ => none }
def SegmentPutsWrongFalsely : Prop := segmentPutsRow.holds Try.pinned (OpenSpec.ofChange segmentPutsWrong)

/-- 'sennitlaw07.SegmentGets': WHATEVER THE INPUT: true; the input reads as it did. -/
def segmentGetsSpec : ChangeSpec := { name := "segmentGets", fn := fun _ => fun
  | [d] => { results := [.lit (.bool true)], args := [d] }
  | _ => none }
def segmentGetsRow : OpenClaim := { program := "ytekhpiiediooiaa", sum := "c764ee936c5d163356a8d8375f0aefa5bf03b1deecd1634d80a78e0b5aa968e9", func := "sennit/sennitlaw07.SegmentGets", spec := "segmentGets", unfollowed := true, recurses := true, apart := false }
def SegmentGetsSaid : Prop := segmentGetsRow.holds Try.pinned (OpenSpec.ofChange segmentGetsSpec)

/-- ITS FALSE NEIGHBOUR: 'it returns false'. Refute it at one input. -/
def segmentGetsWrong : ChangeSpec := { name := "segmentGets", fn := fun _ => fun
  | [d] => { results := [.lit (.bool false)], args := [d] }
  | _ => none }
def SegmentGetsWrongFalsely : Prop := segmentGetsRow.holds Try.pinned (OpenSpec.ofChange segmentGetsWrong)

/-- 'sennitlaw07.SegmentBack': WHATEVER THE INPUT: true; the input reads as it did. -/
def segmentBackSpec : ChangeSpec := { name := "segmentBack", fn := fun _ => fun
  | [d1, d2, d3] => { results := [.lit (.bool true)], args := [d1, d2, d3] }
  | _ => none }
def segmentBackRow : OpenClaim := { program := "ytekhpiiediooiaa", sum := "c764ee936c5d163356a8d8375f0aefa5bf03b1deecd1634d80a78e0b5aa968e9", func := "sennit/sennitlaw07.SegmentBack", spec := "segmentBack", unfollowed := true, recurses := true, apart := false }
def SegmentBackSaid : Prop := segmentBackRow.holds Try.pinned (OpenSpec.ofChange segmentBackSpec)

/-- ITS FALSE NEIGHBOUR: 'it returns false'. Refute it at one input. -/
def segmentBackWrong : ChangeSpec := { name := "segmentBack", fn := fun _ => fun
  | [d1, d2, d3] => { results := [.lit (.bool false)], args := [d1, d2, d3] }
  | _ => none }
def SegmentBackWrongFalsely : Prop := segmentBackRow.holds Try.pinned (OpenSpec.ofChange segmentBackWrong)

/-- 'sennitlaw07.SegmentUnlike': WHATEVER THE INPUT: true; the input reads as it did. -/
def segmentUnlikeSpec : ChangeSpec := { name := "segmentUnlike", fn := fun _ => fun
  | [d1, d2] => { results := [.lit (.bool true)], args := [d1, d2] }
  | _ => none }
def segmentUnlikeRow : OpenClaim := { program := "ytekhpiiediooiaa", sum := "c764ee936c5d163356a8d8375f0aefa5bf03b1deecd1634d80a78e0b5aa968e9", func := "sennit/sennitlaw07.SegmentUnlike", spec := "segmentUnlike", unfollowed := true, recurses := true, apart := false }
def SegmentUnlikeSaid : Prop := segmentUnlikeRow.holds Try.pinned (OpenSpec.ofChange segmentUnlikeSpec)

/-- ITS FALSE NEIGHBOUR: 'it returns false'. Refute it at one input. -/
def segmentUnlikeWrong : ChangeSpec := { name := "segmentUnlike", fn := fun _ => fun
  | [d1, d2] => { results := [.lit (.bool false)], args := [d1, d2] }
  | _ => none }
def SegmentUnlikeWrongFalsely : Prop := segmentUnlikeRow.holds Try.pinned (OpenSpec.ofChange segmentUnlikeWrong)

/- THE SECOND FORM. 'bulk': how many values and letters a reading holds, each counted each time it is reached (what is shared counts as often as it is met; a slice's spare places count too). A statement '..UptoSaid' is the law's where the arguments, and the package variables that the reading takes, are together of bulk at most 1048576: NARROWER than '..Said'. Prove '..Said' where nothing that the law and all that it calls make is longer than what came in: it says more and counts as full. Else prove '..UptoSaid'. A law counts once. -/
mutual
def uptoBulk {H : Type} : DataW H → Nat
  | .lit (.string bytes) => bytes.length + 1
  | .lit _ => 1
  | .nil => 1
  | .ptr d => uptoBulk d + 1
  | .slice elems spare => uptoBulkAll elems + uptoBulkAll spare + 1
  | .agg parts => uptoBulkAll parts + 1
  | .iface _ d => uptoBulk d + 1
  | .map entries => uptoBulkEntries entries + 1
  | .held _ => 1
def uptoBulkAll {H : Type} : List (DataW H) → Nat
  | [] => 0
  | d :: r => uptoBulk d + uptoBulkAll r
def uptoBulkEntries {H : Type} : List (Lit × DataW H) → Nat
  | [] => 0
  | x :: r => uptoBulkEntry x + uptoBulkEntries r
def uptoBulkEntry {H : Type} : Lit × DataW H → Nat
  | (.string bytes, d) => bytes.length + uptoBulk d + 1
  | (_, d) => uptoBulk d + 1
 end
def uptoSmall : (H : Type) → List (DataW H) → Bool := fun _ ds => decide (uptoBulkAll ds ≤ 1048576)
def OpenSpec.upto (s : _root_.Go.ChangeSpec) : _root_.Go.OpenSpec := { _root_.Go.OpenSpec.ofChange s with cond := some uptoSmall }

/-- 'sennitlaw07.SegmentPuts', WHERE WHAT IT READS IS OF BULK AT MOST 1048576: true; the input reads as it did. -/
def segmentPutsUptoRow : OpenClaim := { program := "ytekhpiiediooiaa", sum := "c764ee936c5d163356a8d8375f0aefa5bf03b1deecd1634d80a78e0b5aa968e9", func := "sennit/sennitlaw07.SegmentPuts", spec := "segmentPuts", unfollowed := true, recurses := true, apart := false, narrowed := true }
def SegmentPutsUptoSaid : Prop := segmentPutsUptoRow.holds Try.pinned (OpenSpec.upto segmentPutsSpec)

/-- 'sennitlaw07.SegmentGets', WHERE WHAT IT READS IS OF BULK AT MOST 1048576: true; the input reads as it did. -/
def segmentGetsUptoRow : OpenClaim := { program := "ytekhpiiediooiaa", sum := "c764ee936c5d163356a8d8375f0aefa5bf03b1deecd1634d80a78e0b5aa968e9", func := "sennit/sennitlaw07.SegmentGets", spec := "segmentGets", unfollowed := true, recurses := true, apart := false, narrowed := true }
def SegmentGetsUptoSaid : Prop := segmentGetsUptoRow.holds Try.pinned (OpenSpec.upto segmentGetsSpec)

/-- 'sennitlaw07.SegmentBack', WHERE WHAT IT READS IS OF BULK AT MOST 1048576: true; the input reads as it did. -/
def segmentBackUptoRow : OpenClaim := { program := "ytekhpiiediooiaa", sum := "c764ee936c5d163356a8d8375f0aefa5bf03b1deecd1634d80a78e0b5aa968e9", func := "sennit/sennitlaw07.SegmentBack", spec := "segmentBack", unfollowed := true, recurses := true, apart := false, narrowed := true }
def SegmentBackUptoSaid : Prop := segmentBackUptoRow.holds Try.pinned (OpenSpec.upto segmentBackSpec)

/-- 'sennitlaw07.SegmentUnlike', WHERE WHAT IT READS IS OF BULK AT MOST 1048576: true; the input reads as it did. -/
def segmentUnlikeUptoRow : OpenClaim := { program := "ytekhpiiediooiaa", sum := "c764ee936c5d163356a8d8375f0aefa5bf03b1deecd1634d80a78e0b5aa968e9", func := "sennit/sennitlaw07.SegmentUnlike", spec := "segmentUnlike", unfollowed := true, recurses := true, apart := false, narrowed := true }
def SegmentUnlikeUptoSaid : Prop := segmentUnlikeUptoRow.holds Try.pinned (OpenSpec.upto segmentUnlikeSpec)

end Rows
end Go.Proofs.Ytekhpiiediooiaa
