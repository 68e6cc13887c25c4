/-
  No cell of these rows narrows 'for every input' (looked for: loops, veiled, ifaces, maps, wideKeys, modest, calm, conditions, laid).
  DERIVED. THE GIVEN ROWS OF THIS SEAT. 6 by the template 'for every input the law returns true; each argument reads behind the call as it read before'; 0 by the template 'total and deterministic' (their statements: YtgjgbcakhmphlaaTotals.lean).
  GIVEN WITH THE SEED: the statements are not yours to turn. If you find one false, say at which input.
  Laid BY PROGRAM, IN A SANDBOX (cutbox-rows.mjs): the forced cells as the released guide's own fill.sh prints them over the translation 885782baa318c879… (all of the seat's roots in one cut). By AI agents, Wed Nov 11 2026. No macro, syntax, notation, axiom, sorry.
-/
import Derived.Test.YtgjgbcakhmphlaaChecked
import GoSem.Claim
import GoSem.ClaimJoined
import GoSem.ClaimMapViews
import Derived.JoinedTies
import Derived.KernelRfl
namespace Go.Proofs.Ytgjgbcakhmphlaa
/- THE CELL 'sum', in the pinned program and in every row, IS THE sha256 OF THE DUMP (.gsa) THAT YtgjgbcakhmphlaaProg.lean LOADS. Nothing in Lean hashes anything: it is a label: what it is worth is what the hold of that sum in a sandbox is worth. -/
noncomputable def Try.pinned : Pinned := { name := "ytgjgbcakhmphlaa", sum := "885782baa318c879da7b62dd78f5e16ef66f3b4ae78fe9056550960cba2f26b4", checked := Try.checked }
namespace Rows
def none {H : Type} : Left H := { results := [], args := [] }

/-- 'interpreterlaw23.TcpsmRuns': WHATEVER THE INPUT: true; the input reads as it did. -/
def tcpsmRunsSpec : ChangeSpec := { name := "tcpsmRuns", fn := fun _ => fun
  | [d] => { results := [.lit (.bool true)], args := [d] }
  | _ => none }
def tcpsmRunsRow : OpenClaim := { program := "ytgjgbcakhmphlaa", sum := "885782baa318c879da7b62dd78f5e16ef66f3b4ae78fe9056550960cba2f26b4", func := "interpreter/interpreterlaw23.TcpsmRuns", spec := "tcpsmRuns", plainKeys := false, apart := false }
def TcpsmRunsSaid : Prop := tcpsmRunsRow.holds Try.pinned (OpenSpec.ofChange tcpsmRunsSpec)

/-- ITS FALSE NEIGHBOUR: 'it returns false'. Refute it at one input. -/
def tcpsmRunsWrong : ChangeSpec := { name := "tcpsmRuns", fn := fun _ => fun
  | [d] => { results := [.lit (.bool false)], args := [d] }
  | _ => none }
def TcpsmRunsWrongFalsely : Prop := tcpsmRunsRow.holds Try.pinned (OpenSpec.ofChange tcpsmRunsWrong)

/-- 'interpreterlaw23.TcpsmBoth': WHATEVER THE INPUT: true; the input reads as it did. -/
def tcpsmBothSpec : ChangeSpec := { name := "tcpsmBoth", fn := fun _ => fun
  | [d] => { results := [.lit (.bool true)], args := [d] }
  | _ => none }
def tcpsmBothRow : OpenClaim := { program := "ytgjgbcakhmphlaa", sum := "885782baa318c879da7b62dd78f5e16ef66f3b4ae78fe9056550960cba2f26b4", func := "interpreter/interpreterlaw23.TcpsmBoth", spec := "tcpsmBoth", plainKeys := false, apart := false }
def TcpsmBothSaid : Prop := tcpsmBothRow.holds Try.pinned (OpenSpec.ofChange tcpsmBothSpec)

/-- ITS FALSE NEIGHBOUR: 'it returns false'. Refute it at one input. -/
def tcpsmBothWrong : ChangeSpec := { name := "tcpsmBoth", fn := fun _ => fun
  | [d] => { results := [.lit (.bool false)], args := [d] }
  | _ => none }
def TcpsmBothWrongFalsely : Prop := tcpsmBothRow.holds Try.pinned (OpenSpec.ofChange tcpsmBothWrong)

/-- 'interpreterlaw23.TcpsmLives': WHATEVER THE INPUT: true; the input reads as it did. -/
def tcpsmLivesSpec : ChangeSpec := { name := "tcpsmLives", fn := fun _ => fun
  | [d1, d2, d3] => { results := [.lit (.bool true)], args := [d1, d2, d3] }
  | _ => none }
def tcpsmLivesRow : OpenClaim := { program := "ytgjgbcakhmphlaa", sum := "885782baa318c879da7b62dd78f5e16ef66f3b4ae78fe9056550960cba2f26b4", func := "interpreter/interpreterlaw23.TcpsmLives", spec := "tcpsmLives", plainKeys := false, apart := false }
def TcpsmLivesSaid : Prop := tcpsmLivesRow.holds Try.pinned (OpenSpec.ofChange tcpsmLivesSpec)

/-- ITS FALSE NEIGHBOUR: 'it returns false'. Refute it at one input. -/
def tcpsmLivesWrong : ChangeSpec := { name := "tcpsmLives", fn := fun _ => fun
  | [d1, d2, d3] => { results := [.lit (.bool false)], args := [d1, d2, d3] }
  | _ => none }
def TcpsmLivesWrongFalsely : Prop := tcpsmLivesRow.holds Try.pinned (OpenSpec.ofChange tcpsmLivesWrong)

/-- 'interpreterlaw23.TcpsmTwins': WHATEVER THE INPUT: true; the input reads as it did. -/
def tcpsmTwinsSpec : ChangeSpec := { name := "tcpsmTwins", fn := fun _ => fun
  | [d] => { results := [.lit (.bool true)], args := [d] }
  | _ => none }
def tcpsmTwinsRow : OpenClaim := { program := "ytgjgbcakhmphlaa", sum := "885782baa318c879da7b62dd78f5e16ef66f3b4ae78fe9056550960cba2f26b4", func := "interpreter/interpreterlaw23.TcpsmTwins", spec := "tcpsmTwins", plainKeys := false, apart := false }
def TcpsmTwinsSaid : Prop := tcpsmTwinsRow.holds Try.pinned (OpenSpec.ofChange tcpsmTwinsSpec)

/-- ITS FALSE NEIGHBOUR: 'it returns false'. Refute it at one input. -/
def tcpsmTwinsWrong : ChangeSpec := { name := "tcpsmTwins", fn := fun _ => fun
  | [d] => { results := [.lit (.bool false)], args := [d] }
  | _ => none }
def TcpsmTwinsWrongFalsely : Prop := tcpsmTwinsRow.holds Try.pinned (OpenSpec.ofChange tcpsmTwinsWrong)

/-- 'interpreterlaw23.TcpsmNext': WHATEVER THE INPUT: true; the input reads as it did. -/
def tcpsmNextSpec : ChangeSpec := { name := "tcpsmNext", fn := fun _ => fun
  | [d1, d2, d3] => { results := [.lit (.bool true)], args := [d1, d2, d3] }
  | _ => none }
def tcpsmNextRow : OpenClaim := { program := "ytgjgbcakhmphlaa", sum := "885782baa318c879da7b62dd78f5e16ef66f3b4ae78fe9056550960cba2f26b4", func := "interpreter/interpreterlaw23.TcpsmNext", spec := "tcpsmNext", plainKeys := false, apart := false }
def TcpsmNextSaid : Prop := tcpsmNextRow.holds Try.pinned (OpenSpec.ofChange tcpsmNextSpec)

/-- ITS FALSE NEIGHBOUR: 'it returns false'. Refute it at one input. -/
def tcpsmNextWrong : ChangeSpec := { name := "tcpsmNext", fn := fun _ => fun
  | [d1, d2, d3] => { results := [.lit (.bool false)], args := [d1, d2, d3] }
  | _ => none }
def TcpsmNextWrongFalsely : Prop := tcpsmNextRow.holds Try.pinned (OpenSpec.ofChange tcpsmNextWrong)

/-- 'interpreterlaw23.TcpsmKnown': WHATEVER THE INPUT: true; the input reads as it did. -/
def tcpsmKnownSpec : ChangeSpec := { name := "tcpsmKnown", fn := fun _ => fun
  | [] => { results := [.lit (.bool true)], args := [] }
  | _ => none }
def tcpsmKnownRow : OpenClaim := { program := "ytgjgbcakhmphlaa", sum := "885782baa318c879da7b62dd78f5e16ef66f3b4ae78fe9056550960cba2f26b4", func := "interpreter/interpreterlaw23.TcpsmKnown", spec := "tcpsmKnown", plainKeys := false, apart := false }
def TcpsmKnownSaid : Prop := tcpsmKnownRow.holds Try.pinned (OpenSpec.ofChange tcpsmKnownSpec)

/-- ITS FALSE NEIGHBOUR: 'it returns false'. Refute it at one input. -/
def tcpsmKnownWrong : ChangeSpec := { name := "tcpsmKnown", fn := fun _ => fun
  | [] => { results := [.lit (.bool false)], args := [] }
  | _ => none }
def TcpsmKnownWrongFalsely : Prop := tcpsmKnownRow.holds Try.pinned (OpenSpec.ofChange tcpsmKnownWrong)

/- THE SECOND FORM. 'bulk': how many values and letters a reading holds, each counted each time it is reached (what is shared counts as often as it is met; a slice's spare places count too). A statement '..UptoSaid' is the law's where the arguments, and the package variables that the reading takes, are together of bulk at most 1048576: NARROWER than '..Said'. Prove '..Said' where nothing that the law and all that it calls make is longer than what came in: it says more and counts as full. Else prove '..UptoSaid'. A law counts once. -/
mutual
def uptoBulk {H : Type} : DataW H → Nat
  | .lit (.string bytes) => bytes.length + 1
  | .lit _ => 1
  | .nil => 1
  | .ptr d => uptoBulk d + 1
  | .slice elems spare => uptoBulkAll elems + uptoBulkAll spare + 1
  | .agg parts => uptoBulkAll parts + 1
  | .iface _ d => uptoBulk d + 1
  | .map entries => uptoBulkEntries entries + 1
  | .held _ => 1
def uptoBulkAll {H : Type} : List (DataW H) → Nat
  | [] => 0
  | d :: r => uptoBulk d + uptoBulkAll r
def uptoBulkEntries {H : Type} : List (Lit × DataW H) → Nat
  | [] => 0
  | x :: r => uptoBulkEntry x + uptoBulkEntries r
def uptoBulkEntry {H : Type} : Lit × DataW H → Nat
  | (.string bytes, d) => bytes.length + uptoBulk d + 1
  | (_, d) => uptoBulk d + 1
 end
def uptoSmall : (H : Type) → List (DataW H) → Bool := fun _ ds => decide (uptoBulkAll ds ≤ 1048576)
def OpenSpec.upto (s : _root_.Go.ChangeSpec) : _root_.Go.OpenSpec := { _root_.Go.OpenSpec.ofChange s with cond := some uptoSmall }

/-- 'interpreterlaw23.TcpsmRuns', WHERE WHAT IT READS IS OF BULK AT MOST 1048576: true; the input reads as it did. -/
def tcpsmRunsUptoRow : OpenClaim := { program := "ytgjgbcakhmphlaa", sum := "885782baa318c879da7b62dd78f5e16ef66f3b4ae78fe9056550960cba2f26b4", func := "interpreter/interpreterlaw23.TcpsmRuns", spec := "tcpsmRuns", plainKeys := false, apart := false, narrowed := true }
def TcpsmRunsUptoSaid : Prop := tcpsmRunsUptoRow.holds Try.pinned (OpenSpec.upto tcpsmRunsSpec)

/-- 'interpreterlaw23.TcpsmBoth', WHERE WHAT IT READS IS OF BULK AT MOST 1048576: true; the input reads as it did. -/
def tcpsmBothUptoRow : OpenClaim := { program := "ytgjgbcakhmphlaa", sum := "885782baa318c879da7b62dd78f5e16ef66f3b4ae78fe9056550960cba2f26b4", func := "interpreter/interpreterlaw23.TcpsmBoth", spec := "tcpsmBoth", plainKeys := false, apart := false, narrowed := true }
def TcpsmBothUptoSaid : Prop := tcpsmBothUptoRow.holds Try.pinned (OpenSpec.upto tcpsmBothSpec)

/-- 'interpreterlaw23.TcpsmLives', WHERE WHAT IT READS IS OF BULK AT MOST 1048576: true; the input reads as it did. -/
def tcpsmLivesUptoRow : OpenClaim := { program := "ytgjgbcakhmphlaa", sum := "885782baa318c879da7b62dd78f5e16ef66f3b4ae78fe9056550960cba2f26b4", func := "interpreter/interpreterlaw23.TcpsmLives", spec := "tcpsmLives", plainKeys := false, apart := false, narrowed := true }
def TcpsmLivesUptoSaid : Prop := tcpsmLivesUptoRow.holds Try.pinned (OpenSpec.upto tcpsmLivesSpec)

/-- 'interpreterlaw23.TcpsmTwins', WHERE WHAT IT READS IS OF BULK AT MOST 1048576: true; the input reads as it did. -/
def tcpsmTwinsUptoRow : OpenClaim := { program := "ytgjgbcakhmphlaa", sum := "885782baa318c879da7b62dd78f5e16ef66f3b4ae78fe9056550960cba2f26b4", func := "interpreter/interpreterlaw23.TcpsmTwins", spec := "tcpsmTwins", plainKeys := false, apart := false, narrowed := true }
def TcpsmTwinsUptoSaid : Prop := tcpsmTwinsUptoRow.holds Try.pinned (OpenSpec.upto tcpsmTwinsSpec)

/-- 'interpreterlaw23.TcpsmNext', WHERE WHAT IT READS IS OF BULK AT MOST 1048576: true; the input reads as it did. -/
def tcpsmNextUptoRow : OpenClaim := { program := "ytgjgbcakhmphlaa", sum := "885782baa318c879da7b62dd78f5e16ef66f3b4ae78fe9056550960cba2f26b4", func := "interpreter/interpreterlaw23.TcpsmNext", spec := "tcpsmNext", plainKeys := false, apart := false, narrowed := true }
def TcpsmNextUptoSaid : Prop := tcpsmNextUptoRow.holds Try.pinned (OpenSpec.upto tcpsmNextSpec)

/-- 'interpreterlaw23.TcpsmKnown', WHERE WHAT IT READS IS OF BULK AT MOST 1048576: true; the input reads as it did. -/
def tcpsmKnownUptoRow : OpenClaim := { program := "ytgjgbcakhmphlaa", sum := "885782baa318c879da7b62dd78f5e16ef66f3b4ae78fe9056550960cba2f26b4", func := "interpreter/interpreterlaw23.TcpsmKnown", spec := "tcpsmKnown", plainKeys := false, apart := false, narrowed := true }
def TcpsmKnownUptoSaid : Prop := tcpsmKnownUptoRow.holds Try.pinned (OpenSpec.upto tcpsmKnownSpec)

end Rows
end Go.Proofs.Ytgjgbcakhmphlaa
