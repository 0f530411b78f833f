/-
  No cell of these rows narrows 'for every input' (looked for: loops, veiled, ifaces, maps, wideKeys, modest, calm, conditions, laid).
  DERIVED. THE GIVEN ROWS OF THIS SEAT. 12 by the template 'for every input the law returns true; each argument reads behind the call as it read before'; 0 by the template 'total and deterministic' (their statements: YtfdpoliibpelaaaTotals.lean).
  GIVEN WITH THE SEED: the statements are not yours to turn. If you find one false, say at which input.
  Laid BY PROGRAM, IN A SANDBOX (cutbox-rows.mjs): the forced cells as the released guide's own fill.sh prints them over the translation 29667b4dbf2b9f63… (all of the seat's roots in one cut). By AI agents, Wed Nov 11 2026. No macro, syntax, notation, axiom, sorry.
-/
import Derived.Test.YtfdpoliibpelaaaChecked
import GoSem.Claim
import GoSem.ClaimJoined
import GoSem.ClaimMapViews
import Derived.JoinedTies
import Derived.KernelRfl
namespace Go.Proofs.Ytfdpoliibpelaaa
/- THE CELL 'sum', in the pinned program and in every row, IS THE sha256 OF THE DUMP (.gsa) THAT YtfdpoliibpelaaaProg.lean LOADS. Nothing in Lean hashes anything: it is a label: what it is worth is what the hold of that sum in a sandbox is worth. -/
noncomputable def Try.pinned : Pinned := { name := "ytfdpoliibpelaaa", sum := "29667b4dbf2b9f639e16a90bc12891a8a9d2c7f8875f37727323414d78964f9a", checked := Try.checked }
namespace Rows
def none {H : Type} : Left H := { results := [], args := [] }

/-- 'tailwaterlaw26.ChannelTakes': WHATEVER THE INPUT: true; the input reads as it did. -/
def channelTakesSpec : ChangeSpec := { name := "channelTakes", fn := fun _ => fun
  | [d] => { results := [.lit (.bool true)], args := [d] }
  | _ => none }
def channelTakesRow : OpenClaim := { program := "ytfdpoliibpelaaa", sum := "29667b4dbf2b9f639e16a90bc12891a8a9d2c7f8875f37727323414d78964f9a", func := "tailwater/tailwaterlaw26.ChannelTakes", spec := "channelTakes", apart := false }
def ChannelTakesSaid : Prop := channelTakesRow.holds Try.pinned (OpenSpec.ofChange channelTakesSpec)

/-- ITS FALSE NEIGHBOUR: 'it returns false'. Refute it at one input. -/
def channelTakesWrong : ChangeSpec := { name := "channelTakes", fn := fun _ => fun
  | [d] => { results := [.lit (.bool false)], args := [d] }
  | _ => none }
def ChannelTakesWrongFalsely : Prop := channelTakesRow.holds Try.pinned (OpenSpec.ofChange channelTakesWrong)

/-- 'tailwaterlaw26.ChannelPuts': WHATEVER THE INPUT: true; the input reads as it did. -/
def channelPutsSpec : ChangeSpec := { name := "channelPuts", fn := fun _ => fun
  | [d1, d2, d3] => { results := [.lit (.bool true)], args := [d1, d2, d3] }
  | _ => none }
def channelPutsRow : OpenClaim := { program := "ytfdpoliibpelaaa", sum := "29667b4dbf2b9f639e16a90bc12891a8a9d2c7f8875f37727323414d78964f9a", func := "tailwater/tailwaterlaw26.ChannelPuts", spec := "channelPuts", apart := false }
def ChannelPutsSaid : Prop := channelPutsRow.holds Try.pinned (OpenSpec.ofChange channelPutsSpec)

/-- ITS FALSE NEIGHBOUR: 'it returns false'. Refute it at one input. -/
def channelPutsWrong : ChangeSpec := { name := "channelPuts", fn := fun _ => fun
  | [d1, d2, d3] => { results := [.lit (.bool false)], args := [d1, d2, d3] }
  | _ => none }
def ChannelPutsWrongFalsely : Prop := channelPutsRow.holds Try.pinned (OpenSpec.ofChange channelPutsWrong)

/-- 'tailwaterlaw26.ChannelFirst': WHATEVER THE INPUT: true; the input reads as it did. -/
def channelFirstSpec : ChangeSpec := { name := "channelFirst", fn := fun _ => fun
  | [d1, d2, d3] => { results := [.lit (.bool true)], args := [d1, d2, d3] }
  | _ => none }
def channelFirstRow : OpenClaim := { program := "ytfdpoliibpelaaa", sum := "29667b4dbf2b9f639e16a90bc12891a8a9d2c7f8875f37727323414d78964f9a", func := "tailwater/tailwaterlaw26.ChannelFirst", spec := "channelFirst", apart := false }
def ChannelFirstSaid : Prop := channelFirstRow.holds Try.pinned (OpenSpec.ofChange channelFirstSpec)

/-- ITS FALSE NEIGHBOUR: 'it returns false'. Refute it at one input. -/
def channelFirstWrong : ChangeSpec := { name := "channelFirst", fn := fun _ => fun
  | [d1, d2, d3] => { results := [.lit (.bool false)], args := [d1, d2, d3] }
  | _ => none }
def ChannelFirstWrongFalsely : Prop := channelFirstRow.holds Try.pinned (OpenSpec.ofChange channelFirstWrong)

/-- 'tailwaterlaw26.ChannelNames': WHATEVER THE INPUT: true; the input reads as it did. -/
def channelNamesSpec : ChangeSpec := { name := "channelNames", fn := fun _ => fun
  | [] => { results := [.lit (.bool true)], args := [] }
  | _ => none }
def channelNamesRow : OpenClaim := { program := "ytfdpoliibpelaaa", sum := "29667b4dbf2b9f639e16a90bc12891a8a9d2c7f8875f37727323414d78964f9a", func := "tailwater/tailwaterlaw26.ChannelNames", spec := "channelNames", apart := false }
def ChannelNamesSaid : Prop := channelNamesRow.holds Try.pinned (OpenSpec.ofChange channelNamesSpec)

/-- ITS FALSE NEIGHBOUR: 'it returns false'. Refute it at one input. -/
def channelNamesWrong : ChangeSpec := { name := "channelNames", fn := fun _ => fun
  | [] => { results := [.lit (.bool false)], args := [] }
  | _ => none }
def ChannelNamesWrongFalsely : Prop := channelNamesRow.holds Try.pinned (OpenSpec.ofChange channelNamesWrong)

/-- 'tailwaterlaw26.ChannelOnce': WHATEVER THE INPUT: true; the input reads as it did. -/
def channelOnceSpec : ChangeSpec := { name := "channelOnce", fn := fun _ => fun
  | [d1, d2] => { results := [.lit (.bool true)], args := [d1, d2] }
  | _ => none }
def channelOnceRow : OpenClaim := { program := "ytfdpoliibpelaaa", sum := "29667b4dbf2b9f639e16a90bc12891a8a9d2c7f8875f37727323414d78964f9a", func := "tailwater/tailwaterlaw26.ChannelOnce", spec := "channelOnce", apart := false }
def ChannelOnceSaid : Prop := channelOnceRow.holds Try.pinned (OpenSpec.ofChange channelOnceSpec)

/-- ITS FALSE NEIGHBOUR: 'it returns false'. Refute it at one input. -/
def channelOnceWrong : ChangeSpec := { name := "channelOnce", fn := fun _ => fun
  | [d1, d2] => { results := [.lit (.bool false)], args := [d1, d2] }
  | _ => none }
def ChannelOnceWrongFalsely : Prop := channelOnceRow.holds Try.pinned (OpenSpec.ofChange channelOnceWrong)

/-- 'tailwaterlaw26.ChannelLeft': WHATEVER THE INPUT: true; the input reads as it did. -/
def channelLeftSpec : ChangeSpec := { name := "channelLeft", fn := fun _ => fun
  | [d1, d2] => { results := [.lit (.bool true)], args := [d1, d2] }
  | _ => none }
def channelLeftRow : OpenClaim := { program := "ytfdpoliibpelaaa", sum := "29667b4dbf2b9f639e16a90bc12891a8a9d2c7f8875f37727323414d78964f9a", func := "tailwater/tailwaterlaw26.ChannelLeft", spec := "channelLeft", apart := false }
def ChannelLeftSaid : Prop := channelLeftRow.holds Try.pinned (OpenSpec.ofChange channelLeftSpec)

/-- ITS FALSE NEIGHBOUR: 'it returns false'. Refute it at one input. -/
def channelLeftWrong : ChangeSpec := { name := "channelLeft", fn := fun _ => fun
  | [d1, d2] => { results := [.lit (.bool false)], args := [d1, d2] }
  | _ => none }
def ChannelLeftWrongFalsely : Prop := channelLeftRow.holds Try.pinned (OpenSpec.ofChange channelLeftWrong)

/-- 'tailwaterlaw31.MarksRaises': WHATEVER THE INPUT: true; the input reads as it did. -/
def marksRaisesSpec : ChangeSpec := { name := "marksRaises", fn := fun _ => fun
  | [d1, d2, d3] => { results := [.lit (.bool true)], args := [d1, d2, d3] }
  | _ => none }
def marksRaisesRow : OpenClaim := { program := "ytfdpoliibpelaaa", sum := "29667b4dbf2b9f639e16a90bc12891a8a9d2c7f8875f37727323414d78964f9a", func := "tailwater/tailwaterlaw31.MarksRaises", spec := "marksRaises", apart := false }
def MarksRaisesSaid : Prop := marksRaisesRow.holds Try.pinned (OpenSpec.ofChange marksRaisesSpec)

/-- ITS FALSE NEIGHBOUR: 'it returns false'. Refute it at one input. -/
def marksRaisesWrong : ChangeSpec := { name := "marksRaises", fn := fun _ => fun
  | [d1, d2, d3] => { results := [.lit (.bool false)], args := [d1, d2, d3] }
  | _ => none }
def MarksRaisesWrongFalsely : Prop := marksRaisesRow.holds Try.pinned (OpenSpec.ofChange marksRaisesWrong)

/-- 'tailwaterlaw31.MarksBack': WHATEVER THE INPUT: true; the input reads as it did. -/
def marksBackSpec : ChangeSpec := { name := "marksBack", fn := fun _ => fun
  | [d1, d2, d3] => { results := [.lit (.bool true)], args := [d1, d2, d3] }
  | _ => none }
def marksBackRow : OpenClaim := { program := "ytfdpoliibpelaaa", sum := "29667b4dbf2b9f639e16a90bc12891a8a9d2c7f8875f37727323414d78964f9a", func := "tailwater/tailwaterlaw31.MarksBack", spec := "marksBack", apart := false }
def MarksBackSaid : Prop := marksBackRow.holds Try.pinned (OpenSpec.ofChange marksBackSpec)

/-- ITS FALSE NEIGHBOUR: 'it returns false'. Refute it at one input. -/
def marksBackWrong : ChangeSpec := { name := "marksBack", fn := fun _ => fun
  | [d1, d2, d3] => { results := [.lit (.bool false)], args := [d1, d2, d3] }
  | _ => none }
def MarksBackWrongFalsely : Prop := marksBackRow.holds Try.pinned (OpenSpec.ofChange marksBackWrong)

/-- 'tailwaterlaw31.MarksOrder': WHATEVER THE INPUT: true; the input reads as it did. -/
def marksOrderSpec : ChangeSpec := { name := "marksOrder", fn := fun _ => fun
  | [d1, d2, d3, d4, d5] => { results := [.lit (.bool true)], args := [d1, d2, d3, d4, d5] }
  | _ => none }
def marksOrderRow : OpenClaim := { program := "ytfdpoliibpelaaa", sum := "29667b4dbf2b9f639e16a90bc12891a8a9d2c7f8875f37727323414d78964f9a", func := "tailwater/tailwaterlaw31.MarksOrder", spec := "marksOrder", apart := false }
def MarksOrderSaid : Prop := marksOrderRow.holds Try.pinned (OpenSpec.ofChange marksOrderSpec)

/-- ITS FALSE NEIGHBOUR: 'it returns false'. Refute it at one input. -/
def marksOrderWrong : ChangeSpec := { name := "marksOrder", fn := fun _ => fun
  | [d1, d2, d3, d4, d5] => { results := [.lit (.bool false)], args := [d1, d2, d3, d4, d5] }
  | _ => none }
def MarksOrderWrongFalsely : Prop := marksOrderRow.holds Try.pinned (OpenSpec.ofChange marksOrderWrong)

/-- 'tailwaterlaw31.MarksEnds': WHATEVER THE INPUT: true; the input reads as it did. -/
def marksEndsSpec : ChangeSpec := { name := "marksEnds", fn := fun _ => fun
  | [d] => { results := [.lit (.bool true)], args := [d] }
  | _ => none }
def marksEndsRow : OpenClaim := { program := "ytfdpoliibpelaaa", sum := "29667b4dbf2b9f639e16a90bc12891a8a9d2c7f8875f37727323414d78964f9a", func := "tailwater/tailwaterlaw31.MarksEnds", spec := "marksEnds", apart := false }
def MarksEndsSaid : Prop := marksEndsRow.holds Try.pinned (OpenSpec.ofChange marksEndsSpec)

/-- ITS FALSE NEIGHBOUR: 'it returns false'. Refute it at one input. -/
def marksEndsWrong : ChangeSpec := { name := "marksEnds", fn := fun _ => fun
  | [d] => { results := [.lit (.bool false)], args := [d] }
  | _ => none }
def MarksEndsWrongFalsely : Prop := marksEndsRow.holds Try.pinned (OpenSpec.ofChange marksEndsWrong)

/-- 'tailwaterlaw31.MarksTells': WHATEVER THE INPUT: true; the input reads as it did. -/
def marksTellsSpec : ChangeSpec := { name := "marksTells", fn := fun _ => fun
  | [d1, d2] => { results := [.lit (.bool true)], args := [d1, d2] }
  | _ => none }
def marksTellsRow : OpenClaim := { program := "ytfdpoliibpelaaa", sum := "29667b4dbf2b9f639e16a90bc12891a8a9d2c7f8875f37727323414d78964f9a", func := "tailwater/tailwaterlaw31.MarksTells", spec := "marksTells", apart := false }
def MarksTellsSaid : Prop := marksTellsRow.holds Try.pinned (OpenSpec.ofChange marksTellsSpec)

/-- ITS FALSE NEIGHBOUR: 'it returns false'. Refute it at one input. -/
def marksTellsWrong : ChangeSpec := { name := "marksTells", fn := fun _ => fun
  | [d1, d2] => { results := [.lit (.bool false)], args := [d1, d2] }
  | _ => none }
def MarksTellsWrongFalsely : Prop := marksTellsRow.holds Try.pinned (OpenSpec.ofChange marksTellsWrong)

/-- 'tailwaterlaw31.MarksNames': WHATEVER THE INPUT: true; the input reads as it did. -/
def marksNamesSpec : ChangeSpec := { name := "marksNames", fn := fun _ => fun
  | [] => { results := [.lit (.bool true)], args := [] }
  | _ => none }
def marksNamesRow : OpenClaim := { program := "ytfdpoliibpelaaa", sum := "29667b4dbf2b9f639e16a90bc12891a8a9d2c7f8875f37727323414d78964f9a", func := "tailwater/tailwaterlaw31.MarksNames", spec := "marksNames", apart := false }
def MarksNamesSaid : Prop := marksNamesRow.holds Try.pinned (OpenSpec.ofChange marksNamesSpec)

/-- ITS FALSE NEIGHBOUR: 'it returns false'. Refute it at one input. -/
def marksNamesWrong : ChangeSpec := { name := "marksNames", fn := fun _ => fun
  | [] => { results := [.lit (.bool false)], args := [] }
  | _ => none }
def MarksNamesWrongFalsely : Prop := marksNamesRow.holds Try.pinned (OpenSpec.ofChange marksNamesWrong)

/- THE SECOND FORM. 'bulk': how many values and letters a reading holds, each counted each time it is reached (what is shared counts as often as it is met; a slice's spare places count too). A statement '..UptoSaid' is the law's where the arguments, and the package variables that the reading takes, are together of bulk at most 1048576: NARROWER than '..Said'. Prove '..Said' where nothing that the law and all that it calls make is longer than what came in: it says more and counts as full. Else prove '..UptoSaid'. A law counts once. -/
mutual
def uptoBulk {H : Type} : DataW H → Nat
  | .lit (.string bytes) => bytes.length + 1
  | .lit _ => 1
  | .nil => 1
  | .ptr d => uptoBulk d + 1
  | .slice elems spare => uptoBulkAll elems + uptoBulkAll spare + 1
  | .agg parts => uptoBulkAll parts + 1
  | .iface _ d => uptoBulk d + 1
  | .map entries => uptoBulkEntries entries + 1
  | .held _ => 1
def uptoBulkAll {H : Type} : List (DataW H) → Nat
  | [] => 0
  | d :: r => uptoBulk d + uptoBulkAll r
def uptoBulkEntries {H : Type} : List (Lit × DataW H) → Nat
  | [] => 0
  | x :: r => uptoBulkEntry x + uptoBulkEntries r
def uptoBulkEntry {H : Type} : Lit × DataW H → Nat
  | (.string bytes, d) => bytes.length + uptoBulk d + 1
  | (_, d) => uptoBulk d + 1
 end
def uptoSmall : (H : Type) → List (DataW H) → Bool := fun _ ds => decide (uptoBulkAll ds ≤ 1048576)
def OpenSpec.upto (s : _root_.Go.ChangeSpec) : _root_.Go.OpenSpec := { _root_.Go.OpenSpec.ofChange s with cond := some uptoSmall }

/-- 'tailwaterlaw26.ChannelTakes', WHERE WHAT IT READS IS OF BULK AT MOST 1048576: true; the input reads as it did. -/
def channelTakesUptoRow : OpenClaim := { program := "ytfdpoliibpelaaa", sum := "29667b4dbf2b9f639e16a90bc12891a8a9d2c7f8875f37727323414d78964f9a", func := "tailwater/tailwaterlaw26.ChannelTakes", spec := "channelTakes", apart := false, narrowed := true }
def ChannelTakesUptoSaid : Prop := channelTakesUptoRow.holds Try.pinned (OpenSpec.upto channelTakesSpec)

/-- 'tailwaterlaw26.ChannelPuts', WHERE WHAT IT READS IS OF BULK AT MOST 1048576: true; the input reads as it did. -/
def channelPutsUptoRow : OpenClaim := { program := "ytfdpoliibpelaaa", sum := "29667b4dbf2b9f639e16a90bc12891a8a9d2c7f8875f37727323414d78964f9a", func := "tailwater/tailwaterlaw26.ChannelPuts", spec := "channelPuts", apart := false, narrowed := true }
def ChannelPutsUptoSaid : Prop := channelPutsUptoRow.holds Try.pinned (OpenSpec.upto channelPutsSpec)

/-- 'tailwaterlaw26.ChannelFirst', WHERE WHAT IT READS IS OF BULK AT MOST 1048576: true; the input reads as it did. -/
def channelFirstUptoRow : OpenClaim := { program := "ytfdpoliibpelaaa", sum := "29667b4dbf2b9f639e16a90bc12891a8a9d2c7f8875f37727323414d78964f9a", func := "tailwater/tailwaterlaw26.ChannelFirst", spec := "channelFirst", apart := false, narrowed := true }
def ChannelFirstUptoSaid : Prop := channelFirstUptoRow.holds Try.pinned (OpenSpec.upto channelFirstSpec)

/-- 'tailwaterlaw26.ChannelNames', WHERE WHAT IT READS IS OF BULK AT MOST 1048576: true; the input reads as it did. -/
def channelNamesUptoRow : OpenClaim := { program := "ytfdpoliibpelaaa", sum := "29667b4dbf2b9f639e16a90bc12891a8a9d2c7f8875f37727323414d78964f9a", func := "tailwater/tailwaterlaw26.ChannelNames", spec := "channelNames", apart := false, narrowed := true }
def ChannelNamesUptoSaid : Prop := channelNamesUptoRow.holds Try.pinned (OpenSpec.upto channelNamesSpec)

/-- 'tailwaterlaw26.ChannelOnce', WHERE WHAT IT READS IS OF BULK AT MOST 1048576: true; the input reads as it did. -/
def channelOnceUptoRow : OpenClaim := { program := "ytfdpoliibpelaaa", sum := "29667b4dbf2b9f639e16a90bc12891a8a9d2c7f8875f37727323414d78964f9a", func := "tailwater/tailwaterlaw26.ChannelOnce", spec := "channelOnce", apart := false, narrowed := true }
def ChannelOnceUptoSaid : Prop := channelOnceUptoRow.holds Try.pinned (OpenSpec.upto channelOnceSpec)

/-- 'tailwaterlaw26.ChannelLeft', WHERE WHAT IT READS IS OF BULK AT MOST 1048576: true; the input reads as it did. -/
def channelLeftUptoRow : OpenClaim := { program := "ytfdpoliibpelaaa", sum := "29667b4dbf2b9f639e16a90bc12891a8a9d2c7f8875f37727323414d78964f9a", func := "tailwater/tailwaterlaw26.ChannelLeft", spec := "channelLeft", apart := false, narrowed := true }
def ChannelLeftUptoSaid : Prop := channelLeftUptoRow.holds Try.pinned (OpenSpec.upto channelLeftSpec)

/-- 'tailwaterlaw31.MarksRaises', WHERE WHAT IT READS IS OF BULK AT MOST 1048576: true; the input reads as it did. -/
def marksRaisesUptoRow : OpenClaim := { program := "ytfdpoliibpelaaa", sum := "29667b4dbf2b9f639e16a90bc12891a8a9d2c7f8875f37727323414d78964f9a", func := "tailwater/tailwaterlaw31.MarksRaises", spec := "marksRaises", apart := false, narrowed := true }
def MarksRaisesUptoSaid : Prop := marksRaisesUptoRow.holds Try.pinned (OpenSpec.upto marksRaisesSpec)

/-- 'tailwaterlaw31.MarksBack', WHERE WHAT IT READS IS OF BULK AT MOST 1048576: true; the input reads as it did. -/
def marksBackUptoRow : OpenClaim := { program := "ytfdpoliibpelaaa", sum := "29667b4dbf2b9f639e16a90bc12891a8a9d2c7f8875f37727323414d78964f9a", func := "tailwater/tailwaterlaw31.MarksBack", spec := "marksBack", apart := false, narrowed := true }
def MarksBackUptoSaid : Prop := marksBackUptoRow.holds Try.pinned (OpenSpec.upto marksBackSpec)

/-- 'tailwaterlaw31.MarksOrder', WHERE WHAT IT READS IS OF BULK AT MOST 1048576: true; the input reads as it did. -/
def marksOrderUptoRow : OpenClaim := { program := "ytfdpoliibpelaaa", sum := "29667b4dbf2b9f639e16a90bc12891a8a9d2c7f8875f37727323414d78964f9a", func := "tailwater/tailwaterlaw31.MarksOrder", spec := "marksOrder", apart := false, narrowed := true }
def MarksOrderUptoSaid : Prop := marksOrderUptoRow.holds Try.pinned (OpenSpec.upto marksOrderSpec)

/-- 'tailwaterlaw31.MarksEnds', WHERE WHAT IT READS IS OF BULK AT MOST 1048576: true; the input reads as it did. -/
def marksEndsUptoRow : OpenClaim := { program := "ytfdpoliibpelaaa", sum := "29667b4dbf2b9f639e16a90bc12891a8a9d2c7f8875f37727323414d78964f9a", func := "tailwater/tailwaterlaw31.MarksEnds", spec := "marksEnds", apart := false, narrowed := true }
def MarksEndsUptoSaid : Prop := marksEndsUptoRow.holds Try.pinned (OpenSpec.upto marksEndsSpec)

/-- 'tailwaterlaw31.MarksTells', WHERE WHAT IT READS IS OF BULK AT MOST 1048576: true; the input reads as it did. -/
def marksTellsUptoRow : OpenClaim := { program := "ytfdpoliibpelaaa", sum := "29667b4dbf2b9f639e16a90bc12891a8a9d2c7f8875f37727323414d78964f9a", func := "tailwater/tailwaterlaw31.MarksTells", spec := "marksTells", apart := false, narrowed := true }
def MarksTellsUptoSaid : Prop := marksTellsUptoRow.holds Try.pinned (OpenSpec.upto marksTellsSpec)

/-- 'tailwaterlaw31.MarksNames', WHERE WHAT IT READS IS OF BULK AT MOST 1048576: true; the input reads as it did. -/
def marksNamesUptoRow : OpenClaim := { program := "ytfdpoliibpelaaa", sum := "29667b4dbf2b9f639e16a90bc12891a8a9d2c7f8875f37727323414d78964f9a", func := "tailwater/tailwaterlaw31.MarksNames", spec := "marksNames", apart := false, narrowed := true }
def MarksNamesUptoSaid : Prop := marksNamesUptoRow.holds Try.pinned (OpenSpec.upto marksNamesSpec)

end Rows
end Go.Proofs.Ytfdpoliibpelaaa
