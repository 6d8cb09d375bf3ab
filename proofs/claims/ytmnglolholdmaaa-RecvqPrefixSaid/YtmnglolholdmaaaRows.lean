/-
  No cell of these rows narrows 'for every input' (looked for: loops, veiled, ifaces, maps, wideKeys, modest, calm, conditions, laid).
  DERIVED. THE GIVEN ROWS OF THIS SEAT. 5 by the template 'for every input the law returns true; each argument reads behind the call as it read before'; 0 by the template 'total and deterministic' (their statements: YtmnglolholdmaaaTotals.lean).
  GIVEN WITH THE SEED: the statements are not yours to turn. If you find one false, say at which input.
  Laid BY PROGRAM, IN A SANDBOX (cutbox-rows.mjs): the forced cells as the released guide's own fill.sh prints them over the translation 39cf6076b313df5d… (all of the seat's roots in one cut). By AI agents, Wed Nov 11 2026. No macro, syntax, notation, axiom, sorry.
-/
import Derived.Test.YtmnglolholdmaaaChecked
import GoSem.Claim
import GoSem.ClaimJoined
import GoSem.ClaimMapViews
import Derived.JoinedTies
import Derived.KernelRfl
namespace Go.Proofs.Ytmnglolholdmaaa
/- THE CELL 'sum', in the pinned program and in every row, IS THE sha256 OF THE DUMP (.gsa) THAT YtmnglolholdmaaaProg.lean LOADS. Nothing in Lean hashes anything: it is a label: what it is worth is what the hold of that sum in a sandbox is worth. -/
noncomputable def Try.pinned : Pinned := { name := "ytmnglolholdmaaa", sum := "39cf6076b313df5db2c4558ae2db9973c035f5e445bf7cd2503fc7c70f9a9dcc", checked := Try.checked }
namespace Rows
def none {H : Type} : Left H := { results := [], args := [] }

/-- 'sennitlaw12.RecvqTakes': WHATEVER THE INPUT: true; the input reads as it did. -/
def recvqTakesSpec : ChangeSpec := { name := "recvqTakes", fn := fun _ => fun
  | [d1, d2, d3] => { results := [.lit (.bool true)], args := [d1, d2, d3] }
  | _ => none }
def recvqTakesRow : OpenClaim := { program := "ytmnglolholdmaaa", sum := "39cf6076b313df5db2c4558ae2db9973c035f5e445bf7cd2503fc7c70f9a9dcc", func := "sennit/sennitlaw12.RecvqTakes", spec := "recvqTakes", apart := false }
def RecvqTakesSaid : Prop := recvqTakesRow.holds Try.pinned (OpenSpec.ofChange recvqTakesSpec)

/-- ITS FALSE NEIGHBOUR: 'it returns false'. Refute it at one input. -/
def recvqTakesWrong : ChangeSpec := { name := "recvqTakes", fn := fun _ => fun
  | [d1, d2, d3] => { results := [.lit (.bool false)], args := [d1, d2, d3] }
  | _ => none }
def RecvqTakesWrongFalsely : Prop := recvqTakesRow.holds Try.pinned (OpenSpec.ofChange recvqTakesWrong)

/-- 'sennitlaw12.RecvqTells': WHATEVER THE INPUT: true; the input reads as it did. -/
def recvqTellsSpec : ChangeSpec := { name := "recvqTells", fn := fun _ => fun
  | [d1, d2, d3] => { results := [.lit (.bool true)], args := [d1, d2, d3] }
  | _ => none }
def recvqTellsRow : OpenClaim := { program := "ytmnglolholdmaaa", sum := "39cf6076b313df5db2c4558ae2db9973c035f5e445bf7cd2503fc7c70f9a9dcc", func := "sennit/sennitlaw12.RecvqTells", spec := "recvqTells", apart := false }
def RecvqTellsSaid : Prop := recvqTellsRow.holds Try.pinned (OpenSpec.ofChange recvqTellsSpec)

/-- ITS FALSE NEIGHBOUR: 'it returns false'. Refute it at one input. -/
def recvqTellsWrong : ChangeSpec := { name := "recvqTells", fn := fun _ => fun
  | [d1, d2, d3] => { results := [.lit (.bool false)], args := [d1, d2, d3] }
  | _ => none }
def RecvqTellsWrongFalsely : Prop := recvqTellsRow.holds Try.pinned (OpenSpec.ofChange recvqTellsWrong)

/-- 'sennitlaw12.RecvqPrefix': WHATEVER THE INPUT: true; the input reads as it did. -/
def recvqPrefixSpec : ChangeSpec := { name := "recvqPrefix", fn := fun _ => fun
  | [d] => { results := [.lit (.bool true)], args := [d] }
  | _ => none }
def recvqPrefixRow : OpenClaim := { program := "ytmnglolholdmaaa", sum := "39cf6076b313df5db2c4558ae2db9973c035f5e445bf7cd2503fc7c70f9a9dcc", func := "sennit/sennitlaw12.RecvqPrefix", spec := "recvqPrefix", apart := false }
def RecvqPrefixSaid : Prop := recvqPrefixRow.holds Try.pinned (OpenSpec.ofChange recvqPrefixSpec)

/-- ITS FALSE NEIGHBOUR: 'it returns false'. Refute it at one input. -/
def recvqPrefixWrong : ChangeSpec := { name := "recvqPrefix", fn := fun _ => fun
  | [d] => { results := [.lit (.bool false)], args := [d] }
  | _ => none }
def RecvqPrefixWrongFalsely : Prop := recvqPrefixRow.holds Try.pinned (OpenSpec.ofChange recvqPrefixWrong)

/-- 'sennitlaw12.RecvqOrder': WHATEVER THE INPUT: true; the input reads as it did. -/
def recvqOrderSpec : ChangeSpec := { name := "recvqOrder", fn := fun _ => fun
  | [d1, d2, d3] => { results := [.lit (.bool true)], args := [d1, d2, d3] }
  | _ => none }
def recvqOrderRow : OpenClaim := { program := "ytmnglolholdmaaa", sum := "39cf6076b313df5db2c4558ae2db9973c035f5e445bf7cd2503fc7c70f9a9dcc", func := "sennit/sennitlaw12.RecvqOrder", spec := "recvqOrder", apart := false }
def RecvqOrderSaid : Prop := recvqOrderRow.holds Try.pinned (OpenSpec.ofChange recvqOrderSpec)

/-- ITS FALSE NEIGHBOUR: 'it returns false'. Refute it at one input. -/
def recvqOrderWrong : ChangeSpec := { name := "recvqOrder", fn := fun _ => fun
  | [d1, d2, d3] => { results := [.lit (.bool false)], args := [d1, d2, d3] }
  | _ => none }
def RecvqOrderWrongFalsely : Prop := recvqOrderRow.holds Try.pinned (OpenSpec.ofChange recvqOrderWrong)

/-- 'sennitlaw12.RecvqRoom': WHATEVER THE INPUT: true; the input reads as it did. -/
def recvqRoomSpec : ChangeSpec := { name := "recvqRoom", fn := fun _ => fun
  | [d1, d2] => { results := [.lit (.bool true)], args := [d1, d2] }
  | _ => none }
def recvqRoomRow : OpenClaim := { program := "ytmnglolholdmaaa", sum := "39cf6076b313df5db2c4558ae2db9973c035f5e445bf7cd2503fc7c70f9a9dcc", func := "sennit/sennitlaw12.RecvqRoom", spec := "recvqRoom", apart := false }
def RecvqRoomSaid : Prop := recvqRoomRow.holds Try.pinned (OpenSpec.ofChange recvqRoomSpec)

/-- ITS FALSE NEIGHBOUR: 'it returns false'. Refute it at one input. -/
def recvqRoomWrong : ChangeSpec := { name := "recvqRoom", fn := fun _ => fun
  | [d1, d2] => { results := [.lit (.bool false)], args := [d1, d2] }
  | _ => none }
def RecvqRoomWrongFalsely : Prop := recvqRoomRow.holds Try.pinned (OpenSpec.ofChange recvqRoomWrong)

/- THE SECOND FORM. 'bulk': how many values and letters a reading holds, each counted each time it is reached (what is shared counts as often as it is met; a slice's spare places count too). A statement '..UptoSaid' is the law's where the arguments, and the package variables that the reading takes, are together of bulk at most 1048576: NARROWER than '..Said'. Prove '..Said' where nothing that the law and all that it calls make is longer than what came in: it says more and counts as full. Else prove '..UptoSaid'. A law counts once. -/
mutual
def uptoBulk {H : Type} : DataW H → Nat
  | .lit (.string bytes) => bytes.length + 1
  | .lit _ => 1
  | .nil => 1
  | .ptr d => uptoBulk d + 1
  | .slice elems spare => uptoBulkAll elems + uptoBulkAll spare + 1
  | .agg parts => uptoBulkAll parts + 1
  | .iface _ d => uptoBulk d + 1
  | .map entries => uptoBulkEntries entries + 1
  | .held _ => 1
def uptoBulkAll {H : Type} : List (DataW H) → Nat
  | [] => 0
  | d :: r => uptoBulk d + uptoBulkAll r
def uptoBulkEntries {H : Type} : List (Lit × DataW H) → Nat
  | [] => 0
  | x :: r => uptoBulkEntry x + uptoBulkEntries r
def uptoBulkEntry {H : Type} : Lit × DataW H → Nat
  | (.string bytes, d) => bytes.length + uptoBulk d + 1
  | (_, d) => uptoBulk d + 1
 end
def uptoSmall : (H : Type) → List (DataW H) → Bool := fun _ ds => decide (uptoBulkAll ds ≤ 1048576)
def OpenSpec.upto (s : _root_.Go.ChangeSpec) : _root_.Go.OpenSpec := { _root_.Go.OpenSpec.ofChange s with cond := some uptoSmall }

/-- 'sennitlaw12.RecvqTakes', WHERE WHAT IT READS IS OF BULK AT MOST 1048576: true; the input reads as it did. -/
def recvqTakesUptoRow : OpenClaim := { program := "ytmnglolholdmaaa", sum := "39cf6076b313df5db2c4558ae2db9973c035f5e445bf7cd2503fc7c70f9a9dcc", func := "sennit/sennitlaw12.RecvqTakes", spec := "recvqTakes", apart := false, narrowed := true }
def RecvqTakesUptoSaid : Prop := recvqTakesUptoRow.holds Try.pinned (OpenSpec.upto recvqTakesSpec)

/-- 'sennitlaw12.RecvqTells', WHERE WHAT IT READS IS OF BULK AT MOST 1048576: true; the input reads as it did. -/
def recvqTellsUptoRow : OpenClaim := { program := "ytmnglolholdmaaa", sum := "39cf6076b313df5db2c4558ae2db9973c035f5e445bf7cd2503fc7c70f9a9dcc", func := "sennit/sennitlaw12.RecvqTells", spec := "recvqTells", apart := false, narrowed := true }
def RecvqTellsUptoSaid : Prop := recvqTellsUptoRow.holds Try.pinned (OpenSpec.upto recvqTellsSpec)

/-- 'sennitlaw12.RecvqPrefix', WHERE WHAT IT READS IS OF BULK AT MOST 1048576: true; the input reads as it did. -/
def recvqPrefixUptoRow : OpenClaim := { program := "ytmnglolholdmaaa", sum := "39cf6076b313df5db2c4558ae2db9973c035f5e445bf7cd2503fc7c70f9a9dcc", func := "sennit/sennitlaw12.RecvqPrefix", spec := "recvqPrefix", apart := false, narrowed := true }
def RecvqPrefixUptoSaid : Prop := recvqPrefixUptoRow.holds Try.pinned (OpenSpec.upto recvqPrefixSpec)

/-- 'sennitlaw12.RecvqOrder', WHERE WHAT IT READS IS OF BULK AT MOST 1048576: true; the input reads as it did. -/
def recvqOrderUptoRow : OpenClaim := { program := "ytmnglolholdmaaa", sum := "39cf6076b313df5db2c4558ae2db9973c035f5e445bf7cd2503fc7c70f9a9dcc", func := "sennit/sennitlaw12.RecvqOrder", spec := "recvqOrder", apart := false, narrowed := true }
def RecvqOrderUptoSaid : Prop := recvqOrderUptoRow.holds Try.pinned (OpenSpec.upto recvqOrderSpec)

/-- 'sennitlaw12.RecvqRoom', WHERE WHAT IT READS IS OF BULK AT MOST 1048576: true; the input reads as it did. -/
def recvqRoomUptoRow : OpenClaim := { program := "ytmnglolholdmaaa", sum := "39cf6076b313df5db2c4558ae2db9973c035f5e445bf7cd2503fc7c70f9a9dcc", func := "sennit/sennitlaw12.RecvqRoom", spec := "recvqRoom", apart := false, narrowed := true }
def RecvqRoomUptoSaid : Prop := recvqRoomUptoRow.holds Try.pinned (OpenSpec.upto recvqRoomSpec)

end Rows
end Go.Proofs.Ytmnglolholdmaaa
