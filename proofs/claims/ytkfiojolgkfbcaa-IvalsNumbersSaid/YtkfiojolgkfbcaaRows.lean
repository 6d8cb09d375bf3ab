/-
  No cell of these rows narrows 'for every input' (looked for: loops, veiled, ifaces, maps, wideKeys, modest, calm, conditions, laid).
  DERIVED. THE GIVEN ROWS OF THIS SEAT. 4 by the template 'for every input the law returns true; each argument reads behind the call as it read before'; 0 by the template 'total and deterministic' (their statements: YtkfiojolgkfbcaaTotals.lean).
  GIVEN WITH THE SEED: the statements are not yours to turn. If you find one false, say at which input.
  Laid BY PROGRAM, IN A SANDBOX (cutbox-rows.mjs): the forced cells as the released guide's own fill.sh prints them over the translation 93ccb1476ac9c184… (all of the seat's roots in one cut). By AI agents, Wed Nov 11 2026. No macro, syntax, notation, axiom, sorry.
-/
import Derived.Test.YtkfiojolgkfbcaaChecked
import GoSem.Claim
import GoSem.ClaimJoined
import GoSem.ClaimMapViews
import Derived.JoinedTies
import Derived.KernelRfl
namespace Go.Proofs.Ytkfiojolgkfbcaa
/- THE CELL 'sum', in the pinned program and in every row, IS THE sha256 OF THE DUMP (.gsa) THAT YtkfiojolgkfbcaaProg.lean LOADS. Nothing in Lean hashes anything: it is a label: what it is worth is what the hold of that sum in a sandbox is worth. -/
noncomputable def Try.pinned : Pinned := { name := "ytkfiojolgkfbcaa", sum := "93ccb1476ac9c184d5f40f080d7c7e83aa53a6b77f6bf66ddefbba62db07ecdb", checked := Try.checked }
namespace Rows
def none {H : Type} : Left H := { results := [], args := [] }

/-- 'sennitlaw06.IvalsChange': WHATEVER THE INPUT: true; the input reads as it did. -/
def ivalsChangeSpec : ChangeSpec := { name := "ivalsChange", fn := fun _ => fun
  | [d1, d2, d3] => { results := [.lit (.bool true)], args := [d1, d2, d3] }
  | _ => none }
def ivalsChangeRow : OpenClaim := { program := "ytkfiojolgkfbcaa", sum := "93ccb1476ac9c184d5f40f080d7c7e83aa53a6b77f6bf66ddefbba62db07ecdb", func := "sennit/sennitlaw06.IvalsChange", spec := "ivalsChange", unfollowed := true, recurses := true, apart := false }
def IvalsChangeSaid : Prop := ivalsChangeRow.holds Try.pinned (OpenSpec.ofChange ivalsChangeSpec)

/-- ITS FALSE NEIGHBOUR: 'it returns false'. Refute it at one input. -/
def ivalsChangeWrong : ChangeSpec := { name := "ivalsChange", fn := fun _ => fun
  | [d1, d2, d3] => { results := [.lit (.bool false)], args := [d1, d2, d3] }
  | _ => none }
def IvalsChangeWrongFalsely : Prop := ivalsChangeRow.holds Try.pinned (OpenSpec.ofChange ivalsChangeWrong)

/-- 'sennitlaw06.IvalsTell': WHATEVER THE INPUT: true; the input reads as it did. -/
def ivalsTellSpec : ChangeSpec := { name := "ivalsTell", fn := fun _ => fun
  | [d1, d2, d3] => { results := [.lit (.bool true)], args := [d1, d2, d3] }
  | _ => none }
def ivalsTellRow : OpenClaim := { program := "ytkfiojolgkfbcaa", sum := "93ccb1476ac9c184d5f40f080d7c7e83aa53a6b77f6bf66ddefbba62db07ecdb", func := "sennit/sennitlaw06.IvalsTell", spec := "ivalsTell", unfollowed := true, recurses := true, apart := false }
def IvalsTellSaid : Prop := ivalsTellRow.holds Try.pinned (OpenSpec.ofChange ivalsTellSpec)

/-- ITS FALSE NEIGHBOUR: 'it returns false'. Refute it at one input. -/
def ivalsTellWrong : ChangeSpec := { name := "ivalsTell", fn := fun _ => fun
  | [d1, d2, d3] => { results := [.lit (.bool false)], args := [d1, d2, d3] }
  | _ => none }
def IvalsTellWrongFalsely : Prop := ivalsTellRow.holds Try.pinned (OpenSpec.ofChange ivalsTellWrong)

/-- 'sennitlaw06.IvalsNumbers': WHATEVER THE INPUT: true; the input reads as it did. -/
def ivalsNumbersSpec : ChangeSpec := { name := "ivalsNumbers", fn := fun _ => fun
  | [d] => { results := [.lit (.bool true)], args := [d] }
  | _ => none }
def ivalsNumbersRow : OpenClaim := { program := "ytkfiojolgkfbcaa", sum := "93ccb1476ac9c184d5f40f080d7c7e83aa53a6b77f6bf66ddefbba62db07ecdb", func := "sennit/sennitlaw06.IvalsNumbers", spec := "ivalsNumbers", unfollowed := true, recurses := true, apart := false }
def IvalsNumbersSaid : Prop := ivalsNumbersRow.holds Try.pinned (OpenSpec.ofChange ivalsNumbersSpec)

/-- ITS FALSE NEIGHBOUR: 'it returns false'. Refute it at one input. -/
def ivalsNumbersWrong : ChangeSpec := { name := "ivalsNumbers", fn := fun _ => fun
  | [d] => { results := [.lit (.bool false)], args := [d] }
  | _ => none }
def IvalsNumbersWrongFalsely : Prop := ivalsNumbersRow.holds Try.pinned (OpenSpec.ofChange ivalsNumbersWrong)

/-- 'sennitlaw06.IvalsAgain': WHATEVER THE INPUT: true; the input reads as it did. -/
def ivalsAgainSpec : ChangeSpec := { name := "ivalsAgain", fn := fun _ => fun
  | [d1, d2, d3] => { results := [.lit (.bool true)], args := [d1, d2, d3] }
  | _ => none }
def ivalsAgainRow : OpenClaim := { program := "ytkfiojolgkfbcaa", sum := "93ccb1476ac9c184d5f40f080d7c7e83aa53a6b77f6bf66ddefbba62db07ecdb", func := "sennit/sennitlaw06.IvalsAgain", spec := "ivalsAgain", unfollowed := true, recurses := true, apart := false }
def IvalsAgainSaid : Prop := ivalsAgainRow.holds Try.pinned (OpenSpec.ofChange ivalsAgainSpec)

/-- ITS FALSE NEIGHBOUR: 'it returns false'. Refute it at one input. -/
def ivalsAgainWrong : ChangeSpec := { name := "ivalsAgain", fn := fun _ => fun
  | [d1, d2, d3] => { results := [.lit (.bool false)], args := [d1, d2, d3] }
  | _ => none }
def IvalsAgainWrongFalsely : Prop := ivalsAgainRow.holds Try.pinned (OpenSpec.ofChange ivalsAgainWrong)

/- THE SECOND FORM. 'bulk': how many values and letters a reading holds, each counted each time it is reached (what is shared counts as often as it is met; a slice's spare places count too). A statement '..UptoSaid' is the law's where the arguments, and the package variables that the reading takes, are together of bulk at most 1048576: NARROWER than '..Said'. Prove '..Said' where nothing that the law and all that it calls make is longer than what came in: it says more and counts as full. Else prove '..UptoSaid'. A law counts once. -/
mutual
def uptoBulk {H : Type} : DataW H → Nat
  | .lit (.string bytes) => bytes.length + 1
  | .lit _ => 1
  | .nil => 1
  | .ptr d => uptoBulk d + 1
  | .slice elems spare => uptoBulkAll elems + uptoBulkAll spare + 1
  | .agg parts => uptoBulkAll parts + 1
  | .iface _ d => uptoBulk d + 1
  | .map entries => uptoBulkEntries entries + 1
  | .held _ => 1
def uptoBulkAll {H : Type} : List (DataW H) → Nat
  | [] => 0
  | d :: r => uptoBulk d + uptoBulkAll r
def uptoBulkEntries {H : Type} : List (Lit × DataW H) → Nat
  | [] => 0
  | x :: r => uptoBulkEntry x + uptoBulkEntries r
def uptoBulkEntry {H : Type} : Lit × DataW H → Nat
  | (.string bytes, d) => bytes.length + uptoBulk d + 1
  | (_, d) => uptoBulk d + 1
 end
def uptoSmall : (H : Type) → List (DataW H) → Bool := fun _ ds => decide (uptoBulkAll ds ≤ 1048576)
def OpenSpec.upto (s : _root_.Go.ChangeSpec) : _root_.Go.OpenSpec := { _root_.Go.OpenSpec.ofChange s with cond := some uptoSmall }

/-- 'sennitlaw06.IvalsChange', WHERE WHAT IT READS IS OF BULK AT MOST 1048576: true; the input reads as it did. -/
def ivalsChangeUptoRow : OpenClaim := { program := "ytkfiojolgkfbcaa", sum := "93ccb1476ac9c184d5f40f080d7c7e83aa53a6b77f6bf66ddefbba62db07ecdb", func := "sennit/sennitlaw06.IvalsChange", spec := "ivalsChange", unfollowed := true, recurses := true, apart := false, narrowed := true }
def IvalsChangeUptoSaid : Prop := ivalsChangeUptoRow.holds Try.pinned (OpenSpec.upto ivalsChangeSpec)

/-- 'sennitlaw06.IvalsTell', WHERE WHAT IT READS IS OF BULK AT MOST 1048576: true; the input reads as it did. -/
def ivalsTellUptoRow : OpenClaim := { program := "ytkfiojolgkfbcaa", sum := "93ccb1476ac9c184d5f40f080d7c7e83aa53a6b77f6bf66ddefbba62db07ecdb", func := "sennit/sennitlaw06.IvalsTell", spec := "ivalsTell", unfollowed := true, recurses := true, apart := false, narrowed := true }
def IvalsTellUptoSaid : Prop := ivalsTellUptoRow.holds Try.pinned (OpenSpec.upto ivalsTellSpec)

/-- 'sennitlaw06.IvalsNumbers', WHERE WHAT IT READS IS OF BULK AT MOST 1048576: true; the input reads as it did. -/
def ivalsNumbersUptoRow : OpenClaim := { program := "ytkfiojolgkfbcaa", sum := "93ccb1476ac9c184d5f40f080d7c7e83aa53a6b77f6bf66ddefbba62db07ecdb", func := "sennit/sennitlaw06.IvalsNumbers", spec := "ivalsNumbers", unfollowed := true, recurses := true, apart := false, narrowed := true }
def IvalsNumbersUptoSaid : Prop := ivalsNumbersUptoRow.holds Try.pinned (OpenSpec.upto ivalsNumbersSpec)

/-- 'sennitlaw06.IvalsAgain', WHERE WHAT IT READS IS OF BULK AT MOST 1048576: true; the input reads as it did. -/
def ivalsAgainUptoRow : OpenClaim := { program := "ytkfiojolgkfbcaa", sum := "93ccb1476ac9c184d5f40f080d7c7e83aa53a6b77f6bf66ddefbba62db07ecdb", func := "sennit/sennitlaw06.IvalsAgain", spec := "ivalsAgain", unfollowed := true, recurses := true, apart := false, narrowed := true }
def IvalsAgainUptoSaid : Prop := ivalsAgainUptoRow.holds Try.pinned (OpenSpec.upto ivalsAgainSpec)

end Rows
end Go.Proofs.Ytkfiojolgkfbcaa
