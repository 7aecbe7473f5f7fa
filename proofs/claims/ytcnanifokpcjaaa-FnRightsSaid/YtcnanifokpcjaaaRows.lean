/-
  No cell of these rows narrows 'for every input' (looked for: loops, veiled, ifaces, maps, wideKeys, modest, calm, conditions, laid).
  DERIVED. THE GIVEN ROWS OF THIS SEAT. 10 by the template 'for every input the law returns true; each argument reads behind the call as it read before'; 0 by the template 'total and deterministic' (their statements: YtcnanifokpcjaaaTotals.lean).
  GIVEN WITH THE SEED: the statements are not yours to turn. If you find one false, say at which input.
  Laid BY PROGRAM, IN A SANDBOX (cutbox-rows.mjs): the forced cells as the released guide's own fill.sh prints them over the translation 1da9a197ecadf3b5… (all of the seat's roots in one cut). By AI agents, Wed Nov 11 2026. No macro, syntax, notation, axiom, sorry.
-/
import Derived.Test.YtcnanifokpcjaaaChecked
import GoSem.Claim
import GoSem.ClaimJoined
import GoSem.ClaimMapViews
import Derived.JoinedTies
import Derived.KernelRfl
namespace Go.Proofs.Ytcnanifokpcjaaa
/- THE CELL 'sum', in the pinned program and in every row, IS THE sha256 OF THE DUMP (.gsa) THAT YtcnanifokpcjaaaProg.lean LOADS. Nothing in Lean hashes anything: it is a label: what it is worth is what the hold of that sum in a sandbox is worth. -/
noncomputable def Try.pinned : Pinned := { name := "ytcnanifokpcjaaa", sum := "1da9a197ecadf3b584d17e4dfedffe75040322fb9786b2a1a5c9fd105d439097", checked := Try.checked }
namespace Rows
def none {H : Type} : Left H := { results := [], args := [] }

/-- 'laws.FnExactRightsOk': WHATEVER THE INPUT: true; the input reads as it did. -/
def fnExactRightsOkSpec : ChangeSpec := { name := "fnExactRightsOk", fn := fun _ => fun
  | [d] => { results := [.lit (.bool true)], args := [d] }
  | _ => none }
def fnExactRightsOkRow : OpenClaim := { program := "ytcnanifokpcjaaa", sum := "1da9a197ecadf3b584d17e4dfedffe75040322fb9786b2a1a5c9fd105d439097", func := "loop.example/g00801/laws.FnExactRightsOk", spec := "fnExactRightsOk", apart := false }
def FnExactRightsOkSaid : Prop := fnExactRightsOkRow.holds Try.pinned (OpenSpec.ofChange fnExactRightsOkSpec)

/-- ITS FALSE NEIGHBOUR: 'it returns false'. Refute it at one input. -/
def fnExactRightsOkWrong : ChangeSpec := { name := "fnExactRightsOk", fn := fun _ => fun
  | [d] => { results := [.lit (.bool false)], args := [d] }
  | _ => none }
def FnExactRightsOkWrongFalsely : Prop := fnExactRightsOkRow.holds Try.pinned (OpenSpec.ofChange fnExactRightsOkWrong)

/-- 'laws.FnExactHasOf': WHATEVER THE INPUT: true; the input reads as it did. -/
def fnExactHasOfSpec : ChangeSpec := { name := "fnExactHasOf", fn := fun _ => fun
  | [d1, d2] => { results := [.lit (.bool true)], args := [d1, d2] }
  | _ => none }
def fnExactHasOfRow : OpenClaim := { program := "ytcnanifokpcjaaa", sum := "1da9a197ecadf3b584d17e4dfedffe75040322fb9786b2a1a5c9fd105d439097", func := "loop.example/g00801/laws.FnExactHasOf", spec := "fnExactHasOf", apart := false }
def FnExactHasOfSaid : Prop := fnExactHasOfRow.holds Try.pinned (OpenSpec.ofChange fnExactHasOfSpec)

/-- ITS FALSE NEIGHBOUR: 'it returns false'. Refute it at one input. -/
def fnExactHasOfWrong : ChangeSpec := { name := "fnExactHasOf", fn := fun _ => fun
  | [d1, d2] => { results := [.lit (.bool false)], args := [d1, d2] }
  | _ => none }
def FnExactHasOfWrongFalsely : Prop := fnExactHasOfRow.holds Try.pinned (OpenSpec.ofChange fnExactHasOfWrong)

/-- 'laws.FnExactAllOf': WHATEVER THE INPUT: true; the input reads as it did. -/
def fnExactAllOfSpec : ChangeSpec := { name := "fnExactAllOf", fn := fun _ => fun
  | [d] => { results := [.lit (.bool true)], args := [d] }
  | _ => none }
def fnExactAllOfRow : OpenClaim := { program := "ytcnanifokpcjaaa", sum := "1da9a197ecadf3b584d17e4dfedffe75040322fb9786b2a1a5c9fd105d439097", func := "loop.example/g00801/laws.FnExactAllOf", spec := "fnExactAllOf", apart := false }
def FnExactAllOfSaid : Prop := fnExactAllOfRow.holds Try.pinned (OpenSpec.ofChange fnExactAllOfSpec)

/-- ITS FALSE NEIGHBOUR: 'it returns false'. Refute it at one input. -/
def fnExactAllOfWrong : ChangeSpec := { name := "fnExactAllOf", fn := fun _ => fun
  | [d] => { results := [.lit (.bool false)], args := [d] }
  | _ => none }
def FnExactAllOfWrongFalsely : Prop := fnExactAllOfRow.holds Try.pinned (OpenSpec.ofChange fnExactAllOfWrong)

/-- 'laws.FnExactLater': WHATEVER THE INPUT: true; the input reads as it did. -/
def fnExactLaterSpec : ChangeSpec := { name := "fnExactLater", fn := fun _ => fun
  | [d1, d2] => { results := [.lit (.bool true)], args := [d1, d2] }
  | _ => none }
def fnExactLaterRow : OpenClaim := { program := "ytcnanifokpcjaaa", sum := "1da9a197ecadf3b584d17e4dfedffe75040322fb9786b2a1a5c9fd105d439097", func := "loop.example/g00801/laws.FnExactLater", spec := "fnExactLater", apart := false }
def FnExactLaterSaid : Prop := fnExactLaterRow.holds Try.pinned (OpenSpec.ofChange fnExactLaterSpec)

/-- ITS FALSE NEIGHBOUR: 'it returns false'. Refute it at one input. -/
def fnExactLaterWrong : ChangeSpec := { name := "fnExactLater", fn := fun _ => fun
  | [d1, d2] => { results := [.lit (.bool false)], args := [d1, d2] }
  | _ => none }
def FnExactLaterWrongFalsely : Prop := fnExactLaterRow.holds Try.pinned (OpenSpec.ofChange fnExactLaterWrong)

/-- 'laws.FnExactMeet': WHATEVER THE INPUT: true; the input reads as it did. -/
def fnExactMeetSpec : ChangeSpec := { name := "fnExactMeet", fn := fun _ => fun
  | [d1, d2] => { results := [.lit (.bool true)], args := [d1, d2] }
  | _ => none }
def fnExactMeetRow : OpenClaim := { program := "ytcnanifokpcjaaa", sum := "1da9a197ecadf3b584d17e4dfedffe75040322fb9786b2a1a5c9fd105d439097", func := "loop.example/g00801/laws.FnExactMeet", spec := "fnExactMeet", apart := false }
def FnExactMeetSaid : Prop := fnExactMeetRow.holds Try.pinned (OpenSpec.ofChange fnExactMeetSpec)

/-- ITS FALSE NEIGHBOUR: 'it returns false'. Refute it at one input. -/
def fnExactMeetWrong : ChangeSpec := { name := "fnExactMeet", fn := fun _ => fun
  | [d1, d2] => { results := [.lit (.bool false)], args := [d1, d2] }
  | _ => none }
def FnExactMeetWrongFalsely : Prop := fnExactMeetRow.holds Try.pinned (OpenSpec.ofChange fnExactMeetWrong)

/-- 'laws.FnExactMint': WHATEVER THE INPUT: true; the input reads as it did. -/
def fnExactMintSpec : ChangeSpec := { name := "fnExactMint", fn := fun _ => fun
  | [d1, d2, d3] => { results := [.lit (.bool true)], args := [d1, d2, d3] }
  | _ => none }
def fnExactMintRow : OpenClaim := { program := "ytcnanifokpcjaaa", sum := "1da9a197ecadf3b584d17e4dfedffe75040322fb9786b2a1a5c9fd105d439097", func := "loop.example/g00801/laws.FnExactMint", spec := "fnExactMint", unfollowed := true, recurses := true, apart := false }
def FnExactMintSaid : Prop := fnExactMintRow.holds Try.pinned (OpenSpec.ofChange fnExactMintSpec)

/-- ITS FALSE NEIGHBOUR: 'it returns false'. Refute it at one input. -/
def fnExactMintWrong : ChangeSpec := { name := "fnExactMint", fn := fun _ => fun
  | [d1, d2, d3] => { results := [.lit (.bool false)], args := [d1, d2, d3] }
  | _ => none }
def FnExactMintWrongFalsely : Prop := fnExactMintRow.holds Try.pinned (OpenSpec.ofChange fnExactMintWrong)

/-- 'laws.FnExactSpend': WHATEVER THE INPUT: true; the input reads as it did. -/
def fnExactSpendSpec : ChangeSpec := { name := "fnExactSpend", fn := fun _ => fun
  | [d1, d2, d3] => { results := [.lit (.bool true)], args := [d1, d2, d3] }
  | _ => none }
def fnExactSpendRow : OpenClaim := { program := "ytcnanifokpcjaaa", sum := "1da9a197ecadf3b584d17e4dfedffe75040322fb9786b2a1a5c9fd105d439097", func := "loop.example/g00801/laws.FnExactSpend", spec := "fnExactSpend", unfollowed := true, recurses := true, apart := false }
def FnExactSpendSaid : Prop := fnExactSpendRow.holds Try.pinned (OpenSpec.ofChange fnExactSpendSpec)

/-- ITS FALSE NEIGHBOUR: 'it returns false'. Refute it at one input. -/
def fnExactSpendWrong : ChangeSpec := { name := "fnExactSpend", fn := fun _ => fun
  | [d1, d2, d3] => { results := [.lit (.bool false)], args := [d1, d2, d3] }
  | _ => none }
def FnExactSpendWrongFalsely : Prop := fnExactSpendRow.holds Try.pinned (OpenSpec.ofChange fnExactSpendWrong)

/-- 'laws.FnExactHand': WHATEVER THE INPUT: true; the input reads as it did. -/
def fnExactHandSpec : ChangeSpec := { name := "fnExactHand", fn := fun _ => fun
  | [d1, d2, d3, d4] => { results := [.lit (.bool true)], args := [d1, d2, d3, d4] }
  | _ => none }
def fnExactHandRow : OpenClaim := { program := "ytcnanifokpcjaaa", sum := "1da9a197ecadf3b584d17e4dfedffe75040322fb9786b2a1a5c9fd105d439097", func := "loop.example/g00801/laws.FnExactHand", spec := "fnExactHand", unfollowed := true, recurses := true, apart := false }
def FnExactHandSaid : Prop := fnExactHandRow.holds Try.pinned (OpenSpec.ofChange fnExactHandSpec)

/-- ITS FALSE NEIGHBOUR: 'it returns false'. Refute it at one input. -/
def fnExactHandWrong : ChangeSpec := { name := "fnExactHand", fn := fun _ => fun
  | [d1, d2, d3, d4] => { results := [.lit (.bool false)], args := [d1, d2, d3, d4] }
  | _ => none }
def FnExactHandWrongFalsely : Prop := fnExactHandRow.holds Try.pinned (OpenSpec.ofChange fnExactHandWrong)

/-- 'laws.FnRights': WHATEVER THE INPUT: true; the input reads as it did. -/
def fnRightsSpec : ChangeSpec := { name := "fnRights", fn := fun _ => fun
  | [d] => { results := [.lit (.bool true)], args := [d] }
  | _ => none }
def fnRightsRow : OpenClaim := { program := "ytcnanifokpcjaaa", sum := "1da9a197ecadf3b584d17e4dfedffe75040322fb9786b2a1a5c9fd105d439097", func := "loop.example/g00801/laws.FnRights", spec := "fnRights", unfollowed := true, recurses := true, apart := false }
def FnRightsSaid : Prop := fnRightsRow.holds Try.pinned (OpenSpec.ofChange fnRightsSpec)

/-- ITS FALSE NEIGHBOUR: 'it returns false'. Refute it at one input. -/
def fnRightsWrong : ChangeSpec := { name := "fnRights", fn := fun _ => fun
  | [d] => { results := [.lit (.bool false)], args := [d] }
  | _ => none }
def FnRightsWrongFalsely : Prop := fnRightsRow.holds Try.pinned (OpenSpec.ofChange fnRightsWrong)

/-- 'laws.FnMeet': WHATEVER THE INPUT: true; the input reads as it did. -/
def fnMeetSpec : ChangeSpec := { name := "fnMeet", fn := fun _ => fun
  | [d] => { results := [.lit (.bool true)], args := [d] }
  | _ => none }
def fnMeetRow : OpenClaim := { program := "ytcnanifokpcjaaa", sum := "1da9a197ecadf3b584d17e4dfedffe75040322fb9786b2a1a5c9fd105d439097", func := "loop.example/g00801/laws.FnMeet", spec := "fnMeet", unfollowed := true, recurses := true, apart := false }
def FnMeetSaid : Prop := fnMeetRow.holds Try.pinned (OpenSpec.ofChange fnMeetSpec)

/-- ITS FALSE NEIGHBOUR: 'it returns false'. Refute it at one input. -/
def fnMeetWrong : ChangeSpec := { name := "fnMeet", fn := fun _ => fun
  | [d] => { results := [.lit (.bool false)], args := [d] }
  | _ => none }
def FnMeetWrongFalsely : Prop := fnMeetRow.holds Try.pinned (OpenSpec.ofChange fnMeetWrong)

/- THE SECOND FORM. 'bulk': how many values and letters a reading holds, each counted each time it is reached (what is shared counts as often as it is met; a slice's spare places count too). A statement '..UptoSaid' is the law's where the arguments, and the package variables that the reading takes, are together of bulk at most 1048576: NARROWER than '..Said'. Prove '..Said' where nothing that the law and all that it calls make is longer than what came in: it says more and counts as full. Else prove '..UptoSaid'. A law counts once. -/
mutual
def uptoBulk {H : Type} : DataW H → Nat
  | .lit (.string bytes) => bytes.length + 1
  | .lit _ => 1
  | .nil => 1
  | .ptr d => uptoBulk d + 1
  | .slice elems spare => uptoBulkAll elems + uptoBulkAll spare + 1
  | .agg parts => uptoBulkAll parts + 1
  | .iface _ d => uptoBulk d + 1
  | .map entries => uptoBulkEntries entries + 1
  | .held _ => 1
def uptoBulkAll {H : Type} : List (DataW H) → Nat
  | [] => 0
  | d :: r => uptoBulk d + uptoBulkAll r
def uptoBulkEntries {H : Type} : List (Lit × DataW H) → Nat
  | [] => 0
  | x :: r => uptoBulkEntry x + uptoBulkEntries r
def uptoBulkEntry {H : Type} : Lit × DataW H → Nat
  | (.string bytes, d) => bytes.length + uptoBulk d + 1
  | (_, d) => uptoBulk d + 1
 end
def uptoSmall : (H : Type) → List (DataW H) → Bool := fun _ ds => decide (uptoBulkAll ds ≤ 1048576)
def OpenSpec.upto (s : _root_.Go.ChangeSpec) : _root_.Go.OpenSpec := { _root_.Go.OpenSpec.ofChange s with cond := some uptoSmall }

/-- 'laws.FnExactRightsOk', WHERE WHAT IT READS IS OF BULK AT MOST 1048576: true; the input reads as it did. -/
def fnExactRightsOkUptoRow : OpenClaim := { program := "ytcnanifokpcjaaa", sum := "1da9a197ecadf3b584d17e4dfedffe75040322fb9786b2a1a5c9fd105d439097", func := "loop.example/g00801/laws.FnExactRightsOk", spec := "fnExactRightsOk", apart := false, narrowed := true }
def FnExactRightsOkUptoSaid : Prop := fnExactRightsOkUptoRow.holds Try.pinned (OpenSpec.upto fnExactRightsOkSpec)

/-- 'laws.FnExactHasOf', WHERE WHAT IT READS IS OF BULK AT MOST 1048576: true; the input reads as it did. -/
def fnExactHasOfUptoRow : OpenClaim := { program := "ytcnanifokpcjaaa", sum := "1da9a197ecadf3b584d17e4dfedffe75040322fb9786b2a1a5c9fd105d439097", func := "loop.example/g00801/laws.FnExactHasOf", spec := "fnExactHasOf", apart := false, narrowed := true }
def FnExactHasOfUptoSaid : Prop := fnExactHasOfUptoRow.holds Try.pinned (OpenSpec.upto fnExactHasOfSpec)

/-- 'laws.FnExactAllOf', WHERE WHAT IT READS IS OF BULK AT MOST 1048576: true; the input reads as it did. -/
def fnExactAllOfUptoRow : OpenClaim := { program := "ytcnanifokpcjaaa", sum := "1da9a197ecadf3b584d17e4dfedffe75040322fb9786b2a1a5c9fd105d439097", func := "loop.example/g00801/laws.FnExactAllOf", spec := "fnExactAllOf", apart := false, narrowed := true }
def FnExactAllOfUptoSaid : Prop := fnExactAllOfUptoRow.holds Try.pinned (OpenSpec.upto fnExactAllOfSpec)

/-- 'laws.FnExactLater', WHERE WHAT IT READS IS OF BULK AT MOST 1048576: true; the input reads as it did. -/
def fnExactLaterUptoRow : OpenClaim := { program := "ytcnanifokpcjaaa", sum := "1da9a197ecadf3b584d17e4dfedffe75040322fb9786b2a1a5c9fd105d439097", func := "loop.example/g00801/laws.FnExactLater", spec := "fnExactLater", apart := false, narrowed := true }
def FnExactLaterUptoSaid : Prop := fnExactLaterUptoRow.holds Try.pinned (OpenSpec.upto fnExactLaterSpec)

/-- 'laws.FnExactMeet', WHERE WHAT IT READS IS OF BULK AT MOST 1048576: true; the input reads as it did. -/
def fnExactMeetUptoRow : OpenClaim := { program := "ytcnanifokpcjaaa", sum := "1da9a197ecadf3b584d17e4dfedffe75040322fb9786b2a1a5c9fd105d439097", func := "loop.example/g00801/laws.FnExactMeet", spec := "fnExactMeet", apart := false, narrowed := true }
def FnExactMeetUptoSaid : Prop := fnExactMeetUptoRow.holds Try.pinned (OpenSpec.upto fnExactMeetSpec)

/-- 'laws.FnExactMint', WHERE WHAT IT READS IS OF BULK AT MOST 1048576: true; the input reads as it did. -/
def fnExactMintUptoRow : OpenClaim := { program := "ytcnanifokpcjaaa", sum := "1da9a197ecadf3b584d17e4dfedffe75040322fb9786b2a1a5c9fd105d439097", func := "loop.example/g00801/laws.FnExactMint", spec := "fnExactMint", unfollowed := true, recurses := true, apart := false, narrowed := true }
def FnExactMintUptoSaid : Prop := fnExactMintUptoRow.holds Try.pinned (OpenSpec.upto fnExactMintSpec)

/-- 'laws.FnExactSpend', WHERE WHAT IT READS IS OF BULK AT MOST 1048576: true; the input reads as it did. -/
def fnExactSpendUptoRow : OpenClaim := { program := "ytcnanifokpcjaaa", sum := "1da9a197ecadf3b584d17e4dfedffe75040322fb9786b2a1a5c9fd105d439097", func := "loop.example/g00801/laws.FnExactSpend", spec := "fnExactSpend", unfollowed := true, recurses := true, apart := false, narrowed := true }
def FnExactSpendUptoSaid : Prop := fnExactSpendUptoRow.holds Try.pinned (OpenSpec.upto fnExactSpendSpec)

/-- 'laws.FnExactHand', WHERE WHAT IT READS IS OF BULK AT MOST 1048576: true; the input reads as it did. -/
def fnExactHandUptoRow : OpenClaim := { program := "ytcnanifokpcjaaa", sum := "1da9a197ecadf3b584d17e4dfedffe75040322fb9786b2a1a5c9fd105d439097", func := "loop.example/g00801/laws.FnExactHand", spec := "fnExactHand", unfollowed := true, recurses := true, apart := false, narrowed := true }
def FnExactHandUptoSaid : Prop := fnExactHandUptoRow.holds Try.pinned (OpenSpec.upto fnExactHandSpec)

/-- 'laws.FnRights', WHERE WHAT IT READS IS OF BULK AT MOST 1048576: true; the input reads as it did. -/
def fnRightsUptoRow : OpenClaim := { program := "ytcnanifokpcjaaa", sum := "1da9a197ecadf3b584d17e4dfedffe75040322fb9786b2a1a5c9fd105d439097", func := "loop.example/g00801/laws.FnRights", spec := "fnRights", unfollowed := true, recurses := true, apart := false, narrowed := true }
def FnRightsUptoSaid : Prop := fnRightsUptoRow.holds Try.pinned (OpenSpec.upto fnRightsSpec)

/-- 'laws.FnMeet', WHERE WHAT IT READS IS OF BULK AT MOST 1048576: true; the input reads as it did. -/
def fnMeetUptoRow : OpenClaim := { program := "ytcnanifokpcjaaa", sum := "1da9a197ecadf3b584d17e4dfedffe75040322fb9786b2a1a5c9fd105d439097", func := "loop.example/g00801/laws.FnMeet", spec := "fnMeet", unfollowed := true, recurses := true, apart := false, narrowed := true }
def FnMeetUptoSaid : Prop := fnMeetUptoRow.holds Try.pinned (OpenSpec.upto fnMeetSpec)

end Rows
end Go.Proofs.Ytcnanifokpcjaaa
