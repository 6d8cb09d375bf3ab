/-
  No cell of these rows narrows 'for every input' (looked for: loops, veiled, ifaces, maps, wideKeys, modest, calm, conditions, laid).
  DERIVED. THE GIVEN ROWS OF THIS SEAT. 4 by the template 'for every input the law returns true; each argument reads behind the call as it read before'; 0 by the template 'total and deterministic' (their statements: YtnigaimmobfhoaaTotals.lean).
  GIVEN WITH THE SEED: the statements are not yours to turn. If you find one false, say at which input.
  Laid BY PROGRAM, IN A SANDBOX (cutbox-rows.mjs): the forced cells as the released guide's own fill.sh prints them over the translation 0fafc09cfefc6146… (all of the seat's roots in one cut). By AI agents, Wed Nov 11 2026. No macro, syntax, notation, axiom, sorry.
-/
import Derived.Test.YtnigaimmobfhoaaChecked
import GoSem.Claim
import GoSem.ClaimJoined
import GoSem.ClaimMapViews
import Derived.JoinedTies
import Derived.KernelRfl
namespace Go.Proofs.Ytnigaimmobfhoaa
/- THE CELL 'sum', in the pinned program and in every row, IS THE sha256 OF THE DUMP (.gsa) THAT YtnigaimmobfhoaaProg.lean LOADS. Nothing in Lean hashes anything: it is a label: what it is worth is what the hold of that sum in a sandbox is worth. -/
noncomputable def Try.pinned : Pinned := { name := "ytnigaimmobfhoaa", sum := "0fafc09cfefc61466fa1e4f3c1f63ae8b18b720f702bdeeafefb41e1f37eb8e9", checked := Try.checked }
namespace Rows
def none {H : Type} : Left H := { results := [], args := [] }

/-- 'sennitlaw04.SerialReckons': WHATEVER THE INPUT: true; the input reads as it did. -/
def serialReckonsSpec : ChangeSpec := { name := "serialReckons", fn := fun _ => fun
  | [d1, d2, d3] => { results := [.lit (.bool true)], args := [d1, d2, d3] }
  | _ => none }
def serialReckonsRow : OpenClaim := { program := "ytnigaimmobfhoaa", sum := "0fafc09cfefc61466fa1e4f3c1f63ae8b18b720f702bdeeafefb41e1f37eb8e9", func := "sennit/sennitlaw04.SerialReckons", spec := "serialReckons", apart := false }
def SerialReckonsSaid : Prop := serialReckonsRow.holds Try.pinned (OpenSpec.ofChange serialReckonsSpec)

/-- ITS FALSE NEIGHBOUR: 'it returns false'. Refute it at one input. -/
def serialReckonsWrong : ChangeSpec := { name := "serialReckons", fn := fun _ => fun
  | [d1, d2, d3] => { results := [.lit (.bool false)], args := [d1, d2, d3] }
  | _ => none }
def SerialReckonsWrongFalsely : Prop := serialReckonsRow.holds Try.pinned (OpenSpec.ofChange serialReckonsWrong)

/-- 'sennitlaw04.SerialLongs': WHATEVER THE INPUT: true; the input reads as it did. -/
def serialLongsSpec : ChangeSpec := { name := "serialLongs", fn := fun _ => fun
  | [d1, d2, d3] => { results := [.lit (.bool true)], args := [d1, d2, d3] }
  | _ => none }
def serialLongsRow : OpenClaim := { program := "ytnigaimmobfhoaa", sum := "0fafc09cfefc61466fa1e4f3c1f63ae8b18b720f702bdeeafefb41e1f37eb8e9", func := "sennit/sennitlaw04.SerialLongs", spec := "serialLongs", apart := false }
def SerialLongsSaid : Prop := serialLongsRow.holds Try.pinned (OpenSpec.ofChange serialLongsSpec)

/-- ITS FALSE NEIGHBOUR: 'it returns false'. Refute it at one input. -/
def serialLongsWrong : ChangeSpec := { name := "serialLongs", fn := fun _ => fun
  | [d1, d2, d3] => { results := [.lit (.bool false)], args := [d1, d2, d3] }
  | _ => none }
def SerialLongsWrongFalsely : Prop := serialLongsRow.holds Try.pinned (OpenSpec.ofChange serialLongsWrong)

/-- 'sennitlaw04.SerialBack': WHATEVER THE INPUT: true; the input reads as it did. -/
def serialBackSpec : ChangeSpec := { name := "serialBack", fn := fun _ => fun
  | [d1, d2, d3] => { results := [.lit (.bool true)], args := [d1, d2, d3] }
  | _ => none }
def serialBackRow : OpenClaim := { program := "ytnigaimmobfhoaa", sum := "0fafc09cfefc61466fa1e4f3c1f63ae8b18b720f702bdeeafefb41e1f37eb8e9", func := "sennit/sennitlaw04.SerialBack", spec := "serialBack", apart := false }
def SerialBackSaid : Prop := serialBackRow.holds Try.pinned (OpenSpec.ofChange serialBackSpec)

/-- ITS FALSE NEIGHBOUR: 'it returns false'. Refute it at one input. -/
def serialBackWrong : ChangeSpec := { name := "serialBack", fn := fun _ => fun
  | [d1, d2, d3] => { results := [.lit (.bool false)], args := [d1, d2, d3] }
  | _ => none }
def SerialBackWrongFalsely : Prop := serialBackRow.holds Try.pinned (OpenSpec.ofChange serialBackWrong)

/-- 'sennitlaw04.SerialLatest': WHATEVER THE INPUT: true; the input reads as it did. -/
def serialLatestSpec : ChangeSpec := { name := "serialLatest", fn := fun _ => fun
  | [d1, d2] => { results := [.lit (.bool true)], args := [d1, d2] }
  | _ => none }
def serialLatestRow : OpenClaim := { program := "ytnigaimmobfhoaa", sum := "0fafc09cfefc61466fa1e4f3c1f63ae8b18b720f702bdeeafefb41e1f37eb8e9", func := "sennit/sennitlaw04.SerialLatest", spec := "serialLatest", apart := false }
def SerialLatestSaid : Prop := serialLatestRow.holds Try.pinned (OpenSpec.ofChange serialLatestSpec)

/-- ITS FALSE NEIGHBOUR: 'it returns false'. Refute it at one input. -/
def serialLatestWrong : ChangeSpec := { name := "serialLatest", fn := fun _ => fun
  | [d1, d2] => { results := [.lit (.bool false)], args := [d1, d2] }
  | _ => none }
def SerialLatestWrongFalsely : Prop := serialLatestRow.holds Try.pinned (OpenSpec.ofChange serialLatestWrong)

/- THE SECOND FORM. 'bulk': how many values and letters a reading holds, each counted each time it is reached (what is shared counts as often as it is met; a slice's spare places count too). A statement '..UptoSaid' is the law's where the arguments, and the package variables that the reading takes, are together of bulk at most 1048576: NARROWER than '..Said'. Prove '..Said' where nothing that the law and all that it calls make is longer than what came in: it says more and counts as full. Else prove '..UptoSaid'. A law counts once. -/
mutual
def uptoBulk {H : Type} : DataW H → Nat
  | .lit (.string bytes) => bytes.length + 1
  | .lit _ => 1
  | .nil => 1
  | .ptr d => uptoBulk d + 1
  | .slice elems spare => uptoBulkAll elems + uptoBulkAll spare + 1
  | .agg parts => uptoBulkAll parts + 1
  | .iface _ d => uptoBulk d + 1
  | .map entries => uptoBulkEntries entries + 1
  | .held _ => 1
def uptoBulkAll {H : Type} : List (DataW H) → Nat
  | [] => 0
  | d :: r => uptoBulk d + uptoBulkAll r
def uptoBulkEntries {H : Type} : List (Lit × DataW H) → Nat
  | [] => 0
  | x :: r => uptoBulkEntry x + uptoBulkEntries r
def uptoBulkEntry {H : Type} : Lit × DataW H → Nat
  | (.string bytes, d) => bytes.length + uptoBulk d + 1
  | (_, d) => uptoBulk d + 1
 end
def uptoSmall : (H : Type) → List (DataW H) → Bool := fun _ ds => decide (uptoBulkAll ds ≤ 1048576)
def OpenSpec.upto (s : _root_.Go.ChangeSpec) : _root_.Go.OpenSpec := { _root_.Go.OpenSpec.ofChange s with cond := some uptoSmall }

/-- 'sennitlaw04.SerialReckons', WHERE WHAT IT READS IS OF BULK AT MOST 1048576: true; the input reads as it did. -/
def serialReckonsUptoRow : OpenClaim := { program := "ytnigaimmobfhoaa", sum := "0fafc09cfefc61466fa1e4f3c1f63ae8b18b720f702bdeeafefb41e1f37eb8e9", func := "sennit/sennitlaw04.SerialReckons", spec := "serialReckons", apart := false, narrowed := true }
def SerialReckonsUptoSaid : Prop := serialReckonsUptoRow.holds Try.pinned (OpenSpec.upto serialReckonsSpec)

/-- 'sennitlaw04.SerialLongs', WHERE WHAT IT READS IS OF BULK AT MOST 1048576: true; the input reads as it did. -/
def serialLongsUptoRow : OpenClaim := { program := "ytnigaimmobfhoaa", sum := "0fafc09cfefc61466fa1e4f3c1f63ae8b18b720f702bdeeafefb41e1f37eb8e9", func := "sennit/sennitlaw04.SerialLongs", spec := "serialLongs", apart := false, narrowed := true }
def SerialLongsUptoSaid : Prop := serialLongsUptoRow.holds Try.pinned (OpenSpec.upto serialLongsSpec)

/-- 'sennitlaw04.SerialBack', WHERE WHAT IT READS IS OF BULK AT MOST 1048576: true; the input reads as it did. -/
def serialBackUptoRow : OpenClaim := { program := "ytnigaimmobfhoaa", sum := "0fafc09cfefc61466fa1e4f3c1f63ae8b18b720f702bdeeafefb41e1f37eb8e9", func := "sennit/sennitlaw04.SerialBack", spec := "serialBack", apart := false, narrowed := true }
def SerialBackUptoSaid : Prop := serialBackUptoRow.holds Try.pinned (OpenSpec.upto serialBackSpec)

/-- 'sennitlaw04.SerialLatest', WHERE WHAT IT READS IS OF BULK AT MOST 1048576: true; the input reads as it did. -/
def serialLatestUptoRow : OpenClaim := { program := "ytnigaimmobfhoaa", sum := "0fafc09cfefc61466fa1e4f3c1f63ae8b18b720f702bdeeafefb41e1f37eb8e9", func := "sennit/sennitlaw04.SerialLatest", spec := "serialLatest", apart := false, narrowed := true }
def SerialLatestUptoSaid : Prop := serialLatestUptoRow.holds Try.pinned (OpenSpec.upto serialLatestSpec)

end Rows
end Go.Proofs.Ytnigaimmobfhoaa
