/-
  No cell of these rows narrows 'for every input' (looked for: loops, veiled, ifaces, maps, wideKeys, modest, calm, conditions, laid).
  DERIVED. THE GIVEN ROWS OF THIS SEAT. 8 by the template 'for every input the law returns true; each argument reads behind the call as it read before'; 0 by the template 'total and deterministic' (their statements: YtiomljbaolopiaaTotals.lean).
  GIVEN WITH THE SEED: the statements are not yours to turn. If you find one false, say at which input.
  Laid BY PROGRAM, IN A SANDBOX (cutbox-rows.mjs): the forced cells as the released guide's own fill.sh prints them over the translation 16d06e5333eecd1a… (all of the seat's roots in one cut). By AI agents, Wed Nov 11 2026. No macro, syntax, notation, axiom, sorry.
-/
import Derived.Test.YtiomljbaolopiaaChecked
import GoSem.Claim
import GoSem.ClaimJoined
import GoSem.ClaimMapViews
import Derived.JoinedTies
import Derived.KernelRfl
namespace Go.Proofs.Ytiomljbaolopiaa
/- THE CELL 'sum', in the pinned program and in every row, IS THE sha256 OF THE DUMP (.gsa) THAT YtiomljbaolopiaaProg.lean LOADS. Nothing in Lean hashes anything: it is a label: what it is worth is what the hold of that sum in a sandbox is worth. -/
noncomputable def Try.pinned : Pinned := { name := "ytiomljbaolopiaa", sum := "16d06e5333eecd1aa57441fba95a8eebbdd7ae72d2d09c29899df3f917d4c3ae", checked := Try.checked }
namespace Rows
def none {H : Type} : Left H := { results := [], args := [] }

/-- 'vagabondlaw27.LineFull': WHATEVER THE INPUT: true; the input reads as it did. -/
def lineFullSpec : ChangeSpec := { name := "lineFull", fn := fun _ => fun
  | [d1, d2] => { results := [.lit (.bool true)], args := [d1, d2] }
  | _ => none }
def lineFullRow : OpenClaim := { program := "ytiomljbaolopiaa", sum := "16d06e5333eecd1aa57441fba95a8eebbdd7ae72d2d09c29899df3f917d4c3ae", func := "vagabond/vagabondlaw27.LineFull", spec := "lineFull", apart := false }
def LineFullSaid : Prop := lineFullRow.holds Try.pinned (OpenSpec.ofChange lineFullSpec)

/-- ITS FALSE NEIGHBOUR: 'it returns false'. Refute it at one input. -/
def lineFullWrong : ChangeSpec := { name := "lineFull", fn := fun _ => fun
  | [d1, d2] => { results := [.lit (.bool false)], args := [d1, d2] }
  | _ => none }
def LineFullWrongFalsely : Prop := lineFullRow.holds Try.pinned (OpenSpec.ofChange lineFullWrong)

/-- 'vagabondlaw27.LineDelays': WHATEVER THE INPUT: true; the input reads as it did. -/
def lineDelaysSpec : ChangeSpec := { name := "lineDelays", fn := fun _ => fun
  | [d1, d2, d3] => { results := [.lit (.bool true)], args := [d1, d2, d3] }
  | _ => none }
def lineDelaysRow : OpenClaim := { program := "ytiomljbaolopiaa", sum := "16d06e5333eecd1aa57441fba95a8eebbdd7ae72d2d09c29899df3f917d4c3ae", func := "vagabond/vagabondlaw27.LineDelays", spec := "lineDelays", apart := false }
def LineDelaysSaid : Prop := lineDelaysRow.holds Try.pinned (OpenSpec.ofChange lineDelaysSpec)

/-- ITS FALSE NEIGHBOUR: 'it returns false'. Refute it at one input. -/
def lineDelaysWrong : ChangeSpec := { name := "lineDelays", fn := fun _ => fun
  | [d1, d2, d3] => { results := [.lit (.bool false)], args := [d1, d2, d3] }
  | _ => none }
def LineDelaysWrongFalsely : Prop := lineDelaysRow.holds Try.pinned (OpenSpec.ofChange lineDelaysWrong)

/-- 'vagabondlaw27.LineTurns': WHATEVER THE INPUT: true; the input reads as it did. -/
def lineTurnsSpec : ChangeSpec := { name := "lineTurns", fn := fun _ => fun
  | [d1, d2] => { results := [.lit (.bool true)], args := [d1, d2] }
  | _ => none }
def lineTurnsRow : OpenClaim := { program := "ytiomljbaolopiaa", sum := "16d06e5333eecd1aa57441fba95a8eebbdd7ae72d2d09c29899df3f917d4c3ae", func := "vagabond/vagabondlaw27.LineTurns", spec := "lineTurns", apart := false }
def LineTurnsSaid : Prop := lineTurnsRow.holds Try.pinned (OpenSpec.ofChange lineTurnsSpec)

/-- ITS FALSE NEIGHBOUR: 'it returns false'. Refute it at one input. -/
def lineTurnsWrong : ChangeSpec := { name := "lineTurns", fn := fun _ => fun
  | [d1, d2] => { results := [.lit (.bool false)], args := [d1, d2] }
  | _ => none }
def LineTurnsWrongFalsely : Prop := lineTurnsRow.holds Try.pinned (OpenSpec.ofChange lineTurnsWrong)

/-- 'vagabondlaw27.LineHonest': WHATEVER THE INPUT: true; the input reads as it did. -/
def lineHonestSpec : ChangeSpec := { name := "lineHonest", fn := fun _ => fun
  | [d] => { results := [.lit (.bool true)], args := [d] }
  | _ => none }
def lineHonestRow : OpenClaim := { program := "ytiomljbaolopiaa", sum := "16d06e5333eecd1aa57441fba95a8eebbdd7ae72d2d09c29899df3f917d4c3ae", func := "vagabond/vagabondlaw27.LineHonest", spec := "lineHonest", apart := false }
def LineHonestSaid : Prop := lineHonestRow.holds Try.pinned (OpenSpec.ofChange lineHonestSpec)

/-- ITS FALSE NEIGHBOUR: 'it returns false'. Refute it at one input. -/
def lineHonestWrong : ChangeSpec := { name := "lineHonest", fn := fun _ => fun
  | [d] => { results := [.lit (.bool false)], args := [d] }
  | _ => none }
def LineHonestWrongFalsely : Prop := lineHonestRow.holds Try.pinned (OpenSpec.ofChange lineHonestWrong)

/-- 'vagabondlaw16.ReceiverTakes': WHATEVER THE INPUT: true; the input reads as it did. -/
def receiverTakesSpec : ChangeSpec := { name := "receiverTakes", fn := fun _ => fun
  | [d1, d2, d3] => { results := [.lit (.bool true)], args := [d1, d2, d3] }
  | _ => none }
def receiverTakesRow : OpenClaim := { program := "ytiomljbaolopiaa", sum := "16d06e5333eecd1aa57441fba95a8eebbdd7ae72d2d09c29899df3f917d4c3ae", func := "vagabond/vagabondlaw16.ReceiverTakes", spec := "receiverTakes", inPlace := ["slices.overlaps[vagabond/receiver.state[string]]"], unfollowed := true, recurses := true, apart := false }
def ReceiverTakesSaid : Prop := receiverTakesRow.holds Try.pinned (OpenSpec.ofChange receiverTakesSpec)

/-- ITS FALSE NEIGHBOUR: 'it returns false'. Refute it at one input. -/
def receiverTakesWrong : ChangeSpec := { name := "receiverTakes", fn := fun _ => fun
  | [d1, d2, d3] => { results := [.lit (.bool false)], args := [d1, d2, d3] }
  | _ => none }
def ReceiverTakesWrongFalsely : Prop := receiverTakesRow.holds Try.pinned (OpenSpec.ofChange receiverTakesWrong)

/-- 'vagabondlaw16.ReceiverFollows': WHATEVER THE INPUT: true; the input reads as it did. -/
def receiverFollowsSpec : ChangeSpec := { name := "receiverFollows", fn := fun _ => fun
  | [d1, d2, d3] => { results := [.lit (.bool true)], args := [d1, d2, d3] }
  | _ => none }
def receiverFollowsRow : OpenClaim := { program := "ytiomljbaolopiaa", sum := "16d06e5333eecd1aa57441fba95a8eebbdd7ae72d2d09c29899df3f917d4c3ae", func := "vagabond/vagabondlaw16.ReceiverFollows", spec := "receiverFollows", inPlace := ["slices.overlaps[vagabond/receiver.state[string]]"], unfollowed := true, recurses := true, apart := false }
def ReceiverFollowsSaid : Prop := receiverFollowsRow.holds Try.pinned (OpenSpec.ofChange receiverFollowsSpec)

/-- ITS FALSE NEIGHBOUR: 'it returns false'. Refute it at one input. -/
def receiverFollowsWrong : ChangeSpec := { name := "receiverFollows", fn := fun _ => fun
  | [d1, d2, d3] => { results := [.lit (.bool false)], args := [d1, d2, d3] }
  | _ => none }
def ReceiverFollowsWrongFalsely : Prop := receiverFollowsRow.holds Try.pinned (OpenSpec.ofChange receiverFollowsWrong)

/-- 'vagabondlaw16.ReceiverKeeps': WHATEVER THE INPUT: true; the input reads as it did. -/
def receiverKeepsSpec : ChangeSpec := { name := "receiverKeeps", fn := fun _ => fun
  | [d1, d2] => { results := [.lit (.bool true)], args := [d1, d2] }
  | _ => none }
def receiverKeepsRow : OpenClaim := { program := "ytiomljbaolopiaa", sum := "16d06e5333eecd1aa57441fba95a8eebbdd7ae72d2d09c29899df3f917d4c3ae", func := "vagabond/vagabondlaw16.ReceiverKeeps", spec := "receiverKeeps", inPlace := ["slices.overlaps[vagabond/receiver.state[string]]"], unfollowed := true, recurses := true, apart := false }
def ReceiverKeepsSaid : Prop := receiverKeepsRow.holds Try.pinned (OpenSpec.ofChange receiverKeepsSpec)

/-- ITS FALSE NEIGHBOUR: 'it returns false'. Refute it at one input. -/
def receiverKeepsWrong : ChangeSpec := { name := "receiverKeeps", fn := fun _ => fun
  | [d1, d2] => { results := [.lit (.bool false)], args := [d1, d2] }
  | _ => none }
def ReceiverKeepsWrongFalsely : Prop := receiverKeepsRow.holds Try.pinned (OpenSpec.ofChange receiverKeepsWrong)

/-- 'vagabondlaw16.ReceiverTwice': WHATEVER THE INPUT: true; the input reads as it did. -/
def receiverTwiceSpec : ChangeSpec := { name := "receiverTwice", fn := fun _ => fun
  | [d1, d2] => { results := [.lit (.bool true)], args := [d1, d2] }
  | _ => none }
def receiverTwiceRow : OpenClaim := { program := "ytiomljbaolopiaa", sum := "16d06e5333eecd1aa57441fba95a8eebbdd7ae72d2d09c29899df3f917d4c3ae", func := "vagabond/vagabondlaw16.ReceiverTwice", spec := "receiverTwice", inPlace := ["slices.overlaps[vagabond/receiver.state[string]]"], unfollowed := true, recurses := true, apart := false }
def ReceiverTwiceSaid : Prop := receiverTwiceRow.holds Try.pinned (OpenSpec.ofChange receiverTwiceSpec)

/-- ITS FALSE NEIGHBOUR: 'it returns false'. Refute it at one input. -/
def receiverTwiceWrong : ChangeSpec := { name := "receiverTwice", fn := fun _ => fun
  | [d1, d2] => { results := [.lit (.bool false)], args := [d1, d2] }
  | _ => none }
def ReceiverTwiceWrongFalsely : Prop := receiverTwiceRow.holds Try.pinned (OpenSpec.ofChange receiverTwiceWrong)

/- THE SECOND FORM. 'bulk': how many values and letters a reading holds, each counted each time it is reached (what is shared counts as often as it is met; a slice's spare places count too). A statement '..UptoSaid' is the law's where the arguments, and the package variables that the reading takes, are together of bulk at most 1048576: NARROWER than '..Said'. Prove '..Said' where nothing that the law and all that it calls make is longer than what came in: it says more and counts as full. Else prove '..UptoSaid'. A law counts once. -/
mutual
def uptoBulk {H : Type} : DataW H → Nat
  | .lit (.string bytes) => bytes.length + 1
  | .lit _ => 1
  | .nil => 1
  | .ptr d => uptoBulk d + 1
  | .slice elems spare => uptoBulkAll elems + uptoBulkAll spare + 1
  | .agg parts => uptoBulkAll parts + 1
  | .iface _ d => uptoBulk d + 1
  | .map entries => uptoBulkEntries entries + 1
  | .held _ => 1
def uptoBulkAll {H : Type} : List (DataW H) → Nat
  | [] => 0
  | d :: r => uptoBulk d + uptoBulkAll r
def uptoBulkEntries {H : Type} : List (Lit × DataW H) → Nat
  | [] => 0
  | x :: r => uptoBulkEntry x + uptoBulkEntries r
def uptoBulkEntry {H : Type} : Lit × DataW H → Nat
  | (.string bytes, d) => bytes.length + uptoBulk d + 1
  | (_, d) => uptoBulk d + 1
 end
def uptoSmall : (H : Type) → List (DataW H) → Bool := fun _ ds => decide (uptoBulkAll ds ≤ 1048576)
def OpenSpec.upto (s : _root_.Go.ChangeSpec) : _root_.Go.OpenSpec := { _root_.Go.OpenSpec.ofChange s with cond := some uptoSmall }

/-- 'vagabondlaw27.LineFull', WHERE WHAT IT READS IS OF BULK AT MOST 1048576: true; the input reads as it did. -/
def lineFullUptoRow : OpenClaim := { program := "ytiomljbaolopiaa", sum := "16d06e5333eecd1aa57441fba95a8eebbdd7ae72d2d09c29899df3f917d4c3ae", func := "vagabond/vagabondlaw27.LineFull", spec := "lineFull", apart := false, narrowed := true }
def LineFullUptoSaid : Prop := lineFullUptoRow.holds Try.pinned (OpenSpec.upto lineFullSpec)

/-- 'vagabondlaw27.LineDelays', WHERE WHAT IT READS IS OF BULK AT MOST 1048576: true; the input reads as it did. -/
def lineDelaysUptoRow : OpenClaim := { program := "ytiomljbaolopiaa", sum := "16d06e5333eecd1aa57441fba95a8eebbdd7ae72d2d09c29899df3f917d4c3ae", func := "vagabond/vagabondlaw27.LineDelays", spec := "lineDelays", apart := false, narrowed := true }
def LineDelaysUptoSaid : Prop := lineDelaysUptoRow.holds Try.pinned (OpenSpec.upto lineDelaysSpec)

/-- 'vagabondlaw27.LineTurns', WHERE WHAT IT READS IS OF BULK AT MOST 1048576: true; the input reads as it did. -/
def lineTurnsUptoRow : OpenClaim := { program := "ytiomljbaolopiaa", sum := "16d06e5333eecd1aa57441fba95a8eebbdd7ae72d2d09c29899df3f917d4c3ae", func := "vagabond/vagabondlaw27.LineTurns", spec := "lineTurns", apart := false, narrowed := true }
def LineTurnsUptoSaid : Prop := lineTurnsUptoRow.holds Try.pinned (OpenSpec.upto lineTurnsSpec)

/-- 'vagabondlaw27.LineHonest', WHERE WHAT IT READS IS OF BULK AT MOST 1048576: true; the input reads as it did. -/
def lineHonestUptoRow : OpenClaim := { program := "ytiomljbaolopiaa", sum := "16d06e5333eecd1aa57441fba95a8eebbdd7ae72d2d09c29899df3f917d4c3ae", func := "vagabond/vagabondlaw27.LineHonest", spec := "lineHonest", apart := false, narrowed := true }
def LineHonestUptoSaid : Prop := lineHonestUptoRow.holds Try.pinned (OpenSpec.upto lineHonestSpec)

/-- 'vagabondlaw16.ReceiverTakes', WHERE WHAT IT READS IS OF BULK AT MOST 1048576: true; the input reads as it did. -/
def receiverTakesUptoRow : OpenClaim := { program := "ytiomljbaolopiaa", sum := "16d06e5333eecd1aa57441fba95a8eebbdd7ae72d2d09c29899df3f917d4c3ae", func := "vagabond/vagabondlaw16.ReceiverTakes", spec := "receiverTakes", inPlace := ["slices.overlaps[vagabond/receiver.state[string]]"], unfollowed := true, recurses := true, apart := false, narrowed := true }
def ReceiverTakesUptoSaid : Prop := receiverTakesUptoRow.holds Try.pinned (OpenSpec.upto receiverTakesSpec)

/-- 'vagabondlaw16.ReceiverFollows', WHERE WHAT IT READS IS OF BULK AT MOST 1048576: true; the input reads as it did. -/
def receiverFollowsUptoRow : OpenClaim := { program := "ytiomljbaolopiaa", sum := "16d06e5333eecd1aa57441fba95a8eebbdd7ae72d2d09c29899df3f917d4c3ae", func := "vagabond/vagabondlaw16.ReceiverFollows", spec := "receiverFollows", inPlace := ["slices.overlaps[vagabond/receiver.state[string]]"], unfollowed := true, recurses := true, apart := false, narrowed := true }
def ReceiverFollowsUptoSaid : Prop := receiverFollowsUptoRow.holds Try.pinned (OpenSpec.upto receiverFollowsSpec)

/-- 'vagabondlaw16.ReceiverKeeps', WHERE WHAT IT READS IS OF BULK AT MOST 1048576: true; the input reads as it did. -/
def receiverKeepsUptoRow : OpenClaim := { program := "ytiomljbaolopiaa", sum := "16d06e5333eecd1aa57441fba95a8eebbdd7ae72d2d09c29899df3f917d4c3ae", func := "vagabond/vagabondlaw16.ReceiverKeeps", spec := "receiverKeeps", inPlace := ["slices.overlaps[vagabond/receiver.state[string]]"], unfollowed := true, recurses := true, apart := false, narrowed := true }
def ReceiverKeepsUptoSaid : Prop := receiverKeepsUptoRow.holds Try.pinned (OpenSpec.upto receiverKeepsSpec)

/-- 'vagabondlaw16.ReceiverTwice', WHERE WHAT IT READS IS OF BULK AT MOST 1048576: true; the input reads as it did. -/
def receiverTwiceUptoRow : OpenClaim := { program := "ytiomljbaolopiaa", sum := "16d06e5333eecd1aa57441fba95a8eebbdd7ae72d2d09c29899df3f917d4c3ae", func := "vagabond/vagabondlaw16.ReceiverTwice", spec := "receiverTwice", inPlace := ["slices.overlaps[vagabond/receiver.state[string]]"], unfollowed := true, recurses := true, apart := false, narrowed := true }
def ReceiverTwiceUptoSaid : Prop := receiverTwiceUptoRow.holds Try.pinned (OpenSpec.upto receiverTwiceSpec)

end Rows
end Go.Proofs.Ytiomljbaolopiaa
