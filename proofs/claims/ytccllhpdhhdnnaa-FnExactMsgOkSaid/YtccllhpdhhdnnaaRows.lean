/-
  No cell of these rows narrows 'for every input' (looked for: loops, veiled, ifaces, maps, wideKeys, modest, calm, conditions, laid).
  DERIVED. THE GIVEN ROWS OF THIS SEAT. 11 by the template 'for every input the law returns true; each argument reads behind the call as it read before'; 0 by the template 'total and deterministic' (their statements: YtccllhpdhhdnnaaTotals.lean).
  GIVEN WITH THE SEED: the statements are not yours to turn. If you find one false, say at which input.
  Laid BY PROGRAM, IN A SANDBOX (cutbox-rows.mjs): the forced cells as the released guide's own fill.sh prints them over the translation 6bf1872c6e72f1f3… (all of the seat's roots in one cut). By AI agents, Wed Nov 11 2026. No macro, syntax, notation, axiom, sorry.
-/
import Derived.Test.YtccllhpdhhdnnaaChecked
import GoSem.Claim
import GoSem.ClaimJoined
import GoSem.ClaimMapViews
import Derived.JoinedTies
import Derived.KernelRfl
namespace Go.Proofs.Ytccllhpdhhdnnaa
/- THE CELL 'sum', in the pinned program and in every row, IS THE sha256 OF THE DUMP (.gsa) THAT YtccllhpdhhdnnaaProg.lean LOADS. Nothing in Lean hashes anything: it is a label: what it is worth is what the hold of that sum in a sandbox is worth. -/
noncomputable def Try.pinned : Pinned := { name := "ytccllhpdhhdnnaa", sum := "6bf1872c6e72f1f3e783f69582049a5e8898da53449c9ec2bbd99993e401d3ad", checked := Try.checked }
namespace Rows
def none {H : Type} : Left H := { results := [], args := [] }

/-- 'laws.FnExactConstants': WHATEVER THE INPUT: true; the input reads as it did. -/
def fnExactConstantsSpec : ChangeSpec := { name := "fnExactConstants", fn := fun _ => fun
  | [] => { results := [.lit (.bool true)], args := [] }
  | _ => none }
def fnExactConstantsRow : OpenClaim := { program := "ytccllhpdhhdnnaa", sum := "6bf1872c6e72f1f3e783f69582049a5e8898da53449c9ec2bbd99993e401d3ad", func := "loop.example/g00801/laws.FnExactConstants", spec := "fnExactConstants", apart := false }
def FnExactConstantsSaid : Prop := fnExactConstantsRow.holds Try.pinned (OpenSpec.ofChange fnExactConstantsSpec)

/-- ITS FALSE NEIGHBOUR: 'it returns false'. Refute it at one input. -/
def fnExactConstantsWrong : ChangeSpec := { name := "fnExactConstants", fn := fun _ => fun
  | [] => { results := [.lit (.bool false)], args := [] }
  | _ => none }
def FnExactConstantsWrongFalsely : Prop := fnExactConstantsRow.holds Try.pinned (OpenSpec.ofChange fnExactConstantsWrong)

/-- 'laws.FnExactIsMost': WHATEVER THE INPUT: true; the input reads as it did. -/
def fnExactIsMostSpec : ChangeSpec := { name := "fnExactIsMost", fn := fun _ => fun
  | [d1, d2] => { results := [.lit (.bool true)], args := [d1, d2] }
  | _ => none }
def fnExactIsMostRow : OpenClaim := { program := "ytccllhpdhhdnnaa", sum := "6bf1872c6e72f1f3e783f69582049a5e8898da53449c9ec2bbd99993e401d3ad", func := "loop.example/g00801/laws.FnExactIsMost", spec := "fnExactIsMost", apart := false }
def FnExactIsMostSaid : Prop := fnExactIsMostRow.holds Try.pinned (OpenSpec.ofChange fnExactIsMostSpec)

/-- ITS FALSE NEIGHBOUR: 'it returns false'. Refute it at one input. -/
def fnExactIsMostWrong : ChangeSpec := { name := "fnExactIsMost", fn := fun _ => fun
  | [d1, d2] => { results := [.lit (.bool false)], args := [d1, d2] }
  | _ => none }
def FnExactIsMostWrongFalsely : Prop := fnExactIsMostRow.holds Try.pinned (OpenSpec.ofChange fnExactIsMostWrong)

/-- 'laws.FnExactIsAmt': WHATEVER THE INPUT: true; the input reads as it did. -/
def fnExactIsAmtSpec : ChangeSpec := { name := "fnExactIsAmt", fn := fun _ => fun
  | [d] => { results := [.lit (.bool true)], args := [d] }
  | _ => none }
def fnExactIsAmtRow : OpenClaim := { program := "ytccllhpdhhdnnaa", sum := "6bf1872c6e72f1f3e783f69582049a5e8898da53449c9ec2bbd99993e401d3ad", func := "loop.example/g00801/laws.FnExactIsAmt", spec := "fnExactIsAmt", apart := false }
def FnExactIsAmtSaid : Prop := fnExactIsAmtRow.holds Try.pinned (OpenSpec.ofChange fnExactIsAmtSpec)

/-- ITS FALSE NEIGHBOUR: 'it returns false'. Refute it at one input. -/
def fnExactIsAmtWrong : ChangeSpec := { name := "fnExactIsAmt", fn := fun _ => fun
  | [d] => { results := [.lit (.bool false)], args := [d] }
  | _ => none }
def FnExactIsAmtWrongFalsely : Prop := fnExactIsAmtRow.holds Try.pinned (OpenSpec.ofChange fnExactIsAmtWrong)

/-- 'laws.FnExactInTake': WHATEVER THE INPUT: true; the input reads as it did. -/
def fnExactInTakeSpec : ChangeSpec := { name := "fnExactInTake", fn := fun _ => fun
  | [d1, d2] => { results := [.lit (.bool true)], args := [d1, d2] }
  | _ => none }
def fnExactInTakeRow : OpenClaim := { program := "ytccllhpdhhdnnaa", sum := "6bf1872c6e72f1f3e783f69582049a5e8898da53449c9ec2bbd99993e401d3ad", func := "loop.example/g00801/laws.FnExactInTake", spec := "fnExactInTake", apart := false }
def FnExactInTakeSaid : Prop := fnExactInTakeRow.holds Try.pinned (OpenSpec.ofChange fnExactInTakeSpec)

/-- ITS FALSE NEIGHBOUR: 'it returns false'. Refute it at one input. -/
def fnExactInTakeWrong : ChangeSpec := { name := "fnExactInTake", fn := fun _ => fun
  | [d1, d2] => { results := [.lit (.bool false)], args := [d1, d2] }
  | _ => none }
def FnExactInTakeWrongFalsely : Prop := fnExactInTakeRow.holds Try.pinned (OpenSpec.ofChange fnExactInTakeWrong)

/-- 'laws.FnExactBallotOf': WHATEVER THE INPUT: true; the input reads as it did. -/
def fnExactBallotOfSpec : ChangeSpec := { name := "fnExactBallotOf", fn := fun _ => fun
  | [d1, d2] => { results := [.lit (.bool true)], args := [d1, d2] }
  | _ => none }
def fnExactBallotOfRow : OpenClaim := { program := "ytccllhpdhhdnnaa", sum := "6bf1872c6e72f1f3e783f69582049a5e8898da53449c9ec2bbd99993e401d3ad", func := "loop.example/g00801/laws.FnExactBallotOf", spec := "fnExactBallotOf", apart := false }
def FnExactBallotOfSaid : Prop := fnExactBallotOfRow.holds Try.pinned (OpenSpec.ofChange fnExactBallotOfSpec)

/-- ITS FALSE NEIGHBOUR: 'it returns false'. Refute it at one input. -/
def fnExactBallotOfWrong : ChangeSpec := { name := "fnExactBallotOf", fn := fun _ => fun
  | [d1, d2] => { results := [.lit (.bool false)], args := [d1, d2] }
  | _ => none }
def FnExactBallotOfWrongFalsely : Prop := fnExactBallotOfRow.holds Try.pinned (OpenSpec.ofChange fnExactBallotOfWrong)

/-- 'laws.FnExactSameBytes': WHATEVER THE INPUT: true; the input reads as it did. -/
def fnExactSameBytesSpec : ChangeSpec := { name := "fnExactSameBytes", fn := fun _ => fun
  | [d1, d2] => { results := [.lit (.bool true)], args := [d1, d2] }
  | _ => none }
def fnExactSameBytesRow : OpenClaim := { program := "ytccllhpdhhdnnaa", sum := "6bf1872c6e72f1f3e783f69582049a5e8898da53449c9ec2bbd99993e401d3ad", func := "loop.example/g00801/laws.FnExactSameBytes", spec := "fnExactSameBytes", apart := false }
def FnExactSameBytesSaid : Prop := fnExactSameBytesRow.holds Try.pinned (OpenSpec.ofChange fnExactSameBytesSpec)

/-- ITS FALSE NEIGHBOUR: 'it returns false'. Refute it at one input. -/
def fnExactSameBytesWrong : ChangeSpec := { name := "fnExactSameBytes", fn := fun _ => fun
  | [d1, d2] => { results := [.lit (.bool false)], args := [d1, d2] }
  | _ => none }
def FnExactSameBytesWrongFalsely : Prop := fnExactSameBytesRow.holds Try.pinned (OpenSpec.ofChange fnExactSameBytesWrong)

/-- 'laws.FnExactAccOk': WHATEVER THE INPUT: true; the input reads as it did. -/
def fnExactAccOkSpec : ChangeSpec := { name := "fnExactAccOk", fn := fun _ => fun
  | [d] => { results := [.lit (.bool true)], args := [d] }
  | _ => none }
def fnExactAccOkRow : OpenClaim := { program := "ytccllhpdhhdnnaa", sum := "6bf1872c6e72f1f3e783f69582049a5e8898da53449c9ec2bbd99993e401d3ad", func := "loop.example/g00801/laws.FnExactAccOk", spec := "fnExactAccOk", apart := false }
def FnExactAccOkSaid : Prop := fnExactAccOkRow.holds Try.pinned (OpenSpec.ofChange fnExactAccOkSpec)

/-- ITS FALSE NEIGHBOUR: 'it returns false'. Refute it at one input. -/
def fnExactAccOkWrong : ChangeSpec := { name := "fnExactAccOk", fn := fun _ => fun
  | [d] => { results := [.lit (.bool false)], args := [d] }
  | _ => none }
def FnExactAccOkWrongFalsely : Prop := fnExactAccOkRow.holds Try.pinned (OpenSpec.ofChange fnExactAccOkWrong)

/-- 'laws.FnExactBallotAbove': WHATEVER THE INPUT: true; the input reads as it did. -/
def fnExactBallotAboveSpec : ChangeSpec := { name := "fnExactBallotAbove", fn := fun _ => fun
  | [d1, d2] => { results := [.lit (.bool true)], args := [d1, d2] }
  | _ => none }
def fnExactBallotAboveRow : OpenClaim := { program := "ytccllhpdhhdnnaa", sum := "6bf1872c6e72f1f3e783f69582049a5e8898da53449c9ec2bbd99993e401d3ad", func := "loop.example/g00801/laws.FnExactBallotAbove", spec := "fnExactBallotAbove", apart := false }
def FnExactBallotAboveSaid : Prop := fnExactBallotAboveRow.holds Try.pinned (OpenSpec.ofChange fnExactBallotAboveSpec)

/-- ITS FALSE NEIGHBOUR: 'it returns false'. Refute it at one input. -/
def fnExactBallotAboveWrong : ChangeSpec := { name := "fnExactBallotAbove", fn := fun _ => fun
  | [d1, d2] => { results := [.lit (.bool false)], args := [d1, d2] }
  | _ => none }
def FnExactBallotAboveWrongFalsely : Prop := fnExactBallotAboveRow.holds Try.pinned (OpenSpec.ofChange fnExactBallotAboveWrong)

/-- 'laws.FnExactMsgOk': WHATEVER THE INPUT: true; the input reads as it did. -/
def fnExactMsgOkSpec : ChangeSpec := { name := "fnExactMsgOk", fn := fun _ => fun
  | [d] => { results := [.lit (.bool true)], args := [d] }
  | _ => none }
def fnExactMsgOkRow : OpenClaim := { program := "ytccllhpdhhdnnaa", sum := "6bf1872c6e72f1f3e783f69582049a5e8898da53449c9ec2bbd99993e401d3ad", func := "loop.example/g00801/laws.FnExactMsgOk", spec := "fnExactMsgOk", apart := false }
def FnExactMsgOkSaid : Prop := fnExactMsgOkRow.holds Try.pinned (OpenSpec.ofChange fnExactMsgOkSpec)

/-- ITS FALSE NEIGHBOUR: 'it returns false'. Refute it at one input. -/
def fnExactMsgOkWrong : ChangeSpec := { name := "fnExactMsgOk", fn := fun _ => fun
  | [d] => { results := [.lit (.bool false)], args := [d] }
  | _ => none }
def FnExactMsgOkWrongFalsely : Prop := fnExactMsgOkRow.holds Try.pinned (OpenSpec.ofChange fnExactMsgOkWrong)

/-- 'laws.FnExactCrc': WHATEVER THE INPUT: true; the input reads as it did. -/
def fnExactCrcSpec : ChangeSpec := { name := "fnExactCrc", fn := fun _ => fun
  | [d] => { results := [.lit (.bool true)], args := [d] }
  | _ => none }
def fnExactCrcRow : OpenClaim := { program := "ytccllhpdhhdnnaa", sum := "6bf1872c6e72f1f3e783f69582049a5e8898da53449c9ec2bbd99993e401d3ad", func := "loop.example/g00801/laws.FnExactCrc", spec := "fnExactCrc", apart := false }
def FnExactCrcSaid : Prop := fnExactCrcRow.holds Try.pinned (OpenSpec.ofChange fnExactCrcSpec)

/-- ITS FALSE NEIGHBOUR: 'it returns false'. Refute it at one input. -/
def fnExactCrcWrong : ChangeSpec := { name := "fnExactCrc", fn := fun _ => fun
  | [d] => { results := [.lit (.bool false)], args := [d] }
  | _ => none }
def FnExactCrcWrongFalsely : Prop := fnExactCrcRow.holds Try.pinned (OpenSpec.ofChange fnExactCrcWrong)

/-- 'laws.FnExactAccPrep': WHATEVER THE INPUT: true; the input reads as it did. -/
def fnExactAccPrepSpec : ChangeSpec := { name := "fnExactAccPrep", fn := fun _ => fun
  | [d1, d2] => { results := [.lit (.bool true)], args := [d1, d2] }
  | _ => none }
def fnExactAccPrepRow : OpenClaim := { program := "ytccllhpdhhdnnaa", sum := "6bf1872c6e72f1f3e783f69582049a5e8898da53449c9ec2bbd99993e401d3ad", func := "loop.example/g00801/laws.FnExactAccPrep", spec := "fnExactAccPrep", apart := false }
def FnExactAccPrepSaid : Prop := fnExactAccPrepRow.holds Try.pinned (OpenSpec.ofChange fnExactAccPrepSpec)

/-- ITS FALSE NEIGHBOUR: 'it returns false'. Refute it at one input. -/
def fnExactAccPrepWrong : ChangeSpec := { name := "fnExactAccPrep", fn := fun _ => fun
  | [d1, d2] => { results := [.lit (.bool false)], args := [d1, d2] }
  | _ => none }
def FnExactAccPrepWrongFalsely : Prop := fnExactAccPrepRow.holds Try.pinned (OpenSpec.ofChange fnExactAccPrepWrong)

/- THE SECOND FORM. 'bulk': how many values and letters a reading holds, each counted each time it is reached (what is shared counts as often as it is met; a slice's spare places count too). A statement '..UptoSaid' is the law's where the arguments, and the package variables that the reading takes, are together of bulk at most 1048576: NARROWER than '..Said'. Prove '..Said' where nothing that the law and all that it calls make is longer than what came in: it says more and counts as full. Else prove '..UptoSaid'. A law counts once. -/
mutual
def uptoBulk {H : Type} : DataW H → Nat
  | .lit (.string bytes) => bytes.length + 1
  | .lit _ => 1
  | .nil => 1
  | .ptr d => uptoBulk d + 1
  | .slice elems spare => uptoBulkAll elems + uptoBulkAll spare + 1
  | .agg parts => uptoBulkAll parts + 1
  | .iface _ d => uptoBulk d + 1
  | .map entries => uptoBulkEntries entries + 1
  | .held _ => 1
def uptoBulkAll {H : Type} : List (DataW H) → Nat
  | [] => 0
  | d :: r => uptoBulk d + uptoBulkAll r
def uptoBulkEntries {H : Type} : List (Lit × DataW H) → Nat
  | [] => 0
  | x :: r => uptoBulkEntry x + uptoBulkEntries r
def uptoBulkEntry {H : Type} : Lit × DataW H → Nat
  | (.string bytes, d) => bytes.length + uptoBulk d + 1
  | (_, d) => uptoBulk d + 1
 end
def uptoSmall : (H : Type) → List (DataW H) → Bool := fun _ ds => decide (uptoBulkAll ds ≤ 1048576)
def OpenSpec.upto (s : _root_.Go.ChangeSpec) : _root_.Go.OpenSpec := { _root_.Go.OpenSpec.ofChange s with cond := some uptoSmall }

/-- 'laws.FnExactConstants', WHERE WHAT IT READS IS OF BULK AT MOST 1048576: true; the input reads as it did. -/
def fnExactConstantsUptoRow : OpenClaim := { program := "ytccllhpdhhdnnaa", sum := "6bf1872c6e72f1f3e783f69582049a5e8898da53449c9ec2bbd99993e401d3ad", func := "loop.example/g00801/laws.FnExactConstants", spec := "fnExactConstants", apart := false, narrowed := true }
def FnExactConstantsUptoSaid : Prop := fnExactConstantsUptoRow.holds Try.pinned (OpenSpec.upto fnExactConstantsSpec)

/-- 'laws.FnExactIsMost', WHERE WHAT IT READS IS OF BULK AT MOST 1048576: true; the input reads as it did. -/
def fnExactIsMostUptoRow : OpenClaim := { program := "ytccllhpdhhdnnaa", sum := "6bf1872c6e72f1f3e783f69582049a5e8898da53449c9ec2bbd99993e401d3ad", func := "loop.example/g00801/laws.FnExactIsMost", spec := "fnExactIsMost", apart := false, narrowed := true }
def FnExactIsMostUptoSaid : Prop := fnExactIsMostUptoRow.holds Try.pinned (OpenSpec.upto fnExactIsMostSpec)

/-- 'laws.FnExactIsAmt', WHERE WHAT IT READS IS OF BULK AT MOST 1048576: true; the input reads as it did. -/
def fnExactIsAmtUptoRow : OpenClaim := { program := "ytccllhpdhhdnnaa", sum := "6bf1872c6e72f1f3e783f69582049a5e8898da53449c9ec2bbd99993e401d3ad", func := "loop.example/g00801/laws.FnExactIsAmt", spec := "fnExactIsAmt", apart := false, narrowed := true }
def FnExactIsAmtUptoSaid : Prop := fnExactIsAmtUptoRow.holds Try.pinned (OpenSpec.upto fnExactIsAmtSpec)

/-- 'laws.FnExactInTake', WHERE WHAT IT READS IS OF BULK AT MOST 1048576: true; the input reads as it did. -/
def fnExactInTakeUptoRow : OpenClaim := { program := "ytccllhpdhhdnnaa", sum := "6bf1872c6e72f1f3e783f69582049a5e8898da53449c9ec2bbd99993e401d3ad", func := "loop.example/g00801/laws.FnExactInTake", spec := "fnExactInTake", apart := false, narrowed := true }
def FnExactInTakeUptoSaid : Prop := fnExactInTakeUptoRow.holds Try.pinned (OpenSpec.upto fnExactInTakeSpec)

/-- 'laws.FnExactBallotOf', WHERE WHAT IT READS IS OF BULK AT MOST 1048576: true; the input reads as it did. -/
def fnExactBallotOfUptoRow : OpenClaim := { program := "ytccllhpdhhdnnaa", sum := "6bf1872c6e72f1f3e783f69582049a5e8898da53449c9ec2bbd99993e401d3ad", func := "loop.example/g00801/laws.FnExactBallotOf", spec := "fnExactBallotOf", apart := false, narrowed := true }
def FnExactBallotOfUptoSaid : Prop := fnExactBallotOfUptoRow.holds Try.pinned (OpenSpec.upto fnExactBallotOfSpec)

/-- 'laws.FnExactSameBytes', WHERE WHAT IT READS IS OF BULK AT MOST 1048576: true; the input reads as it did. -/
def fnExactSameBytesUptoRow : OpenClaim := { program := "ytccllhpdhhdnnaa", sum := "6bf1872c6e72f1f3e783f69582049a5e8898da53449c9ec2bbd99993e401d3ad", func := "loop.example/g00801/laws.FnExactSameBytes", spec := "fnExactSameBytes", apart := false, narrowed := true }
def FnExactSameBytesUptoSaid : Prop := fnExactSameBytesUptoRow.holds Try.pinned (OpenSpec.upto fnExactSameBytesSpec)

/-- 'laws.FnExactAccOk', WHERE WHAT IT READS IS OF BULK AT MOST 1048576: true; the input reads as it did. -/
def fnExactAccOkUptoRow : OpenClaim := { program := "ytccllhpdhhdnnaa", sum := "6bf1872c6e72f1f3e783f69582049a5e8898da53449c9ec2bbd99993e401d3ad", func := "loop.example/g00801/laws.FnExactAccOk", spec := "fnExactAccOk", apart := false, narrowed := true }
def FnExactAccOkUptoSaid : Prop := fnExactAccOkUptoRow.holds Try.pinned (OpenSpec.upto fnExactAccOkSpec)

/-- 'laws.FnExactBallotAbove', WHERE WHAT IT READS IS OF BULK AT MOST 1048576: true; the input reads as it did. -/
def fnExactBallotAboveUptoRow : OpenClaim := { program := "ytccllhpdhhdnnaa", sum := "6bf1872c6e72f1f3e783f69582049a5e8898da53449c9ec2bbd99993e401d3ad", func := "loop.example/g00801/laws.FnExactBallotAbove", spec := "fnExactBallotAbove", apart := false, narrowed := true }
def FnExactBallotAboveUptoSaid : Prop := fnExactBallotAboveUptoRow.holds Try.pinned (OpenSpec.upto fnExactBallotAboveSpec)

/-- 'laws.FnExactMsgOk', WHERE WHAT IT READS IS OF BULK AT MOST 1048576: true; the input reads as it did. -/
def fnExactMsgOkUptoRow : OpenClaim := { program := "ytccllhpdhhdnnaa", sum := "6bf1872c6e72f1f3e783f69582049a5e8898da53449c9ec2bbd99993e401d3ad", func := "loop.example/g00801/laws.FnExactMsgOk", spec := "fnExactMsgOk", apart := false, narrowed := true }
def FnExactMsgOkUptoSaid : Prop := fnExactMsgOkUptoRow.holds Try.pinned (OpenSpec.upto fnExactMsgOkSpec)

/-- 'laws.FnExactCrc', WHERE WHAT IT READS IS OF BULK AT MOST 1048576: true; the input reads as it did. -/
def fnExactCrcUptoRow : OpenClaim := { program := "ytccllhpdhhdnnaa", sum := "6bf1872c6e72f1f3e783f69582049a5e8898da53449c9ec2bbd99993e401d3ad", func := "loop.example/g00801/laws.FnExactCrc", spec := "fnExactCrc", apart := false, narrowed := true }
def FnExactCrcUptoSaid : Prop := fnExactCrcUptoRow.holds Try.pinned (OpenSpec.upto fnExactCrcSpec)

/-- 'laws.FnExactAccPrep', WHERE WHAT IT READS IS OF BULK AT MOST 1048576: true; the input reads as it did. -/
def fnExactAccPrepUptoRow : OpenClaim := { program := "ytccllhpdhhdnnaa", sum := "6bf1872c6e72f1f3e783f69582049a5e8898da53449c9ec2bbd99993e401d3ad", func := "loop.example/g00801/laws.FnExactAccPrep", spec := "fnExactAccPrep", apart := false, narrowed := true }
def FnExactAccPrepUptoSaid : Prop := fnExactAccPrepUptoRow.holds Try.pinned (OpenSpec.upto fnExactAccPrepSpec)

end Rows
end Go.Proofs.Ytccllhpdhhdnnaa
