/-
  No cell of these rows narrows 'for every input' (looked for: loops, veiled, ifaces, maps, wideKeys, modest, calm, conditions, laid).
  DERIVED. THE GIVEN ROWS OF THIS SEAT. 12 by the template 'for every input the law returns true; each argument reads behind the call as it read before'; 0 by the template 'total and deterministic' (their statements: YtnejpihjlkpcgaaTotals.lean).
  GIVEN WITH THE SEED: the statements are not yours to turn. If you find one false, say at which input.
  Laid BY PROGRAM, IN A SANDBOX (cutbox-rows.mjs): the forced cells as the released guide's own fill.sh prints them over the translation 811d6bcd72152420… (all of the seat's roots in one cut). By AI agents, Wed Nov 11 2026. No macro, syntax, notation, axiom, sorry.
-/
import Derived.Test.YtnejpihjlkpcgaaChecked
import GoSem.Claim
import GoSem.ClaimJoined
import GoSem.ClaimMapViews
import Derived.JoinedTies
import Derived.KernelRfl
namespace Go.Proofs.Ytnejpihjlkpcgaa
/- THE CELL 'sum', in the pinned program and in every row, IS THE sha256 OF THE DUMP (.gsa) THAT YtnejpihjlkpcgaaProg.lean LOADS. Nothing in Lean hashes anything: it is a label: what it is worth is what the hold of that sum in a sandbox is worth. -/
noncomputable def Try.pinned : Pinned := { name := "ytnejpihjlkpcgaa", sum := "811d6bcd72152420d28b412d56cace07d297bcb5530a1f979e11f4ed8e9d0b3f", checked := Try.checked }
namespace Rows
def none {H : Type} : Left H := { results := [], args := [] }

/-- 'laws.FnExactAccTake': WHATEVER THE INPUT: true; the input reads as it did. -/
def fnExactAccTakeSpec : ChangeSpec := { name := "fnExactAccTake", fn := fun _ => fun
  | [d1, d2, d3] => { results := [.lit (.bool true)], args := [d1, d2, d3] }
  | _ => none }
def fnExactAccTakeRow : OpenClaim := { program := "ytnejpihjlkpcgaa", sum := "811d6bcd72152420d28b412d56cace07d297bcb5530a1f979e11f4ed8e9d0b3f", func := "loop.example/g00801/laws.FnExactAccTake", spec := "fnExactAccTake", apart := false }
def FnExactAccTakeSaid : Prop := fnExactAccTakeRow.holds Try.pinned (OpenSpec.ofChange fnExactAccTakeSpec)

/-- ITS FALSE NEIGHBOUR: 'it returns false'. Refute it at one input. -/
def fnExactAccTakeWrong : ChangeSpec := { name := "fnExactAccTake", fn := fun _ => fun
  | [d1, d2, d3] => { results := [.lit (.bool false)], args := [d1, d2, d3] }
  | _ => none }
def FnExactAccTakeWrongFalsely : Prop := fnExactAccTakeRow.holds Try.pinned (OpenSpec.ofChange fnExactAccTakeWrong)

/-- 'laws.FnExactDiskOk': WHATEVER THE INPUT: true; the input reads as it did. -/
def fnExactDiskOkSpec : ChangeSpec := { name := "fnExactDiskOk", fn := fun _ => fun
  | [d] => { results := [.lit (.bool true)], args := [d] }
  | _ => none }
def fnExactDiskOkRow : OpenClaim := { program := "ytnejpihjlkpcgaa", sum := "811d6bcd72152420d28b412d56cace07d297bcb5530a1f979e11f4ed8e9d0b3f", func := "loop.example/g00801/laws.FnExactDiskOk", spec := "fnExactDiskOk", apart := false }
def FnExactDiskOkSaid : Prop := fnExactDiskOkRow.holds Try.pinned (OpenSpec.ofChange fnExactDiskOkSpec)

/-- ITS FALSE NEIGHBOUR: 'it returns false'. Refute it at one input. -/
def fnExactDiskOkWrong : ChangeSpec := { name := "fnExactDiskOk", fn := fun _ => fun
  | [d] => { results := [.lit (.bool false)], args := [d] }
  | _ => none }
def FnExactDiskOkWrongFalsely : Prop := fnExactDiskOkRow.holds Try.pinned (OpenSpec.ofChange fnExactDiskOkWrong)

/-- 'laws.FnExactDiskSame': WHATEVER THE INPUT: true; the input reads as it did. -/
def fnExactDiskSameSpec : ChangeSpec := { name := "fnExactDiskSame", fn := fun _ => fun
  | [d1, d2] => { results := [.lit (.bool true)], args := [d1, d2] }
  | _ => none }
def fnExactDiskSameRow : OpenClaim := { program := "ytnejpihjlkpcgaa", sum := "811d6bcd72152420d28b412d56cace07d297bcb5530a1f979e11f4ed8e9d0b3f", func := "loop.example/g00801/laws.FnExactDiskSame", spec := "fnExactDiskSame", apart := false }
def FnExactDiskSameSaid : Prop := fnExactDiskSameRow.holds Try.pinned (OpenSpec.ofChange fnExactDiskSameSpec)

/-- ITS FALSE NEIGHBOUR: 'it returns false'. Refute it at one input. -/
def fnExactDiskSameWrong : ChangeSpec := { name := "fnExactDiskSame", fn := fun _ => fun
  | [d1, d2] => { results := [.lit (.bool false)], args := [d1, d2] }
  | _ => none }
def FnExactDiskSameWrongFalsely : Prop := fnExactDiskSameRow.holds Try.pinned (OpenSpec.ofChange fnExactDiskSameWrong)

/-- 'laws.FnDisk': WHATEVER THE INPUT: true; the input reads as it did. -/
def fnDiskSpec : ChangeSpec := { name := "fnDisk", fn := fun _ => fun
  | [d] => { results := [.lit (.bool true)], args := [d] }
  | _ => none }
def fnDiskRow : OpenClaim := { program := "ytnejpihjlkpcgaa", sum := "811d6bcd72152420d28b412d56cace07d297bcb5530a1f979e11f4ed8e9d0b3f", func := "loop.example/g00801/laws.FnDisk", spec := "fnDisk", apart := false }
def FnDiskSaid : Prop := fnDiskRow.holds Try.pinned (OpenSpec.ofChange fnDiskSpec)

/-- ITS FALSE NEIGHBOUR: 'it returns false'. Refute it at one input. -/
def fnDiskWrong : ChangeSpec := { name := "fnDisk", fn := fun _ => fun
  | [d] => { results := [.lit (.bool false)], args := [d] }
  | _ => none }
def FnDiskWrongFalsely : Prop := fnDiskRow.holds Try.pinned (OpenSpec.ofChange fnDiskWrong)

/-- 'laws.FnExactDiskAll': WHATEVER THE INPUT: true; the input reads as it did. -/
def fnExactDiskAllSpec : ChangeSpec := { name := "fnExactDiskAll", fn := fun _ => fun
  | [d] => { results := [.lit (.bool true)], args := [d] }
  | _ => none }
def fnExactDiskAllRow : OpenClaim := { program := "ytnejpihjlkpcgaa", sum := "811d6bcd72152420d28b412d56cace07d297bcb5530a1f979e11f4ed8e9d0b3f", func := "loop.example/g00801/laws.FnExactDiskAll", spec := "fnExactDiskAll", apart := false }
def FnExactDiskAllSaid : Prop := fnExactDiskAllRow.holds Try.pinned (OpenSpec.ofChange fnExactDiskAllSpec)

/-- ITS FALSE NEIGHBOUR: 'it returns false'. Refute it at one input. -/
def fnExactDiskAllWrong : ChangeSpec := { name := "fnExactDiskAll", fn := fun _ => fun
  | [d] => { results := [.lit (.bool false)], args := [d] }
  | _ => none }
def FnExactDiskAllWrongFalsely : Prop := fnExactDiskAllRow.holds Try.pinned (OpenSpec.ofChange fnExactDiskAllWrong)

/-- 'laws.FnExactDiskSync': WHATEVER THE INPUT: true; the input reads as it did. -/
def fnExactDiskSyncSpec : ChangeSpec := { name := "fnExactDiskSync", fn := fun _ => fun
  | [d] => { results := [.lit (.bool true)], args := [d] }
  | _ => none }
def fnExactDiskSyncRow : OpenClaim := { program := "ytnejpihjlkpcgaa", sum := "811d6bcd72152420d28b412d56cace07d297bcb5530a1f979e11f4ed8e9d0b3f", func := "loop.example/g00801/laws.FnExactDiskSync", spec := "fnExactDiskSync", apart := false }
def FnExactDiskSyncSaid : Prop := fnExactDiskSyncRow.holds Try.pinned (OpenSpec.ofChange fnExactDiskSyncSpec)

/-- ITS FALSE NEIGHBOUR: 'it returns false'. Refute it at one input. -/
def fnExactDiskSyncWrong : ChangeSpec := { name := "fnExactDiskSync", fn := fun _ => fun
  | [d] => { results := [.lit (.bool false)], args := [d] }
  | _ => none }
def FnExactDiskSyncWrongFalsely : Prop := fnExactDiskSyncRow.holds Try.pinned (OpenSpec.ofChange fnExactDiskSyncWrong)

/-- 'laws.FnExactDiskFall': WHATEVER THE INPUT: true; the input reads as it did. -/
def fnExactDiskFallSpec : ChangeSpec := { name := "fnExactDiskFall", fn := fun _ => fun
  | [d1, d2] => { results := [.lit (.bool true)], args := [d1, d2] }
  | _ => none }
def fnExactDiskFallRow : OpenClaim := { program := "ytnejpihjlkpcgaa", sum := "811d6bcd72152420d28b412d56cace07d297bcb5530a1f979e11f4ed8e9d0b3f", func := "loop.example/g00801/laws.FnExactDiskFall", spec := "fnExactDiskFall", apart := false }
def FnExactDiskFallSaid : Prop := fnExactDiskFallRow.holds Try.pinned (OpenSpec.ofChange fnExactDiskFallSpec)

/-- ITS FALSE NEIGHBOUR: 'it returns false'. Refute it at one input. -/
def fnExactDiskFallWrong : ChangeSpec := { name := "fnExactDiskFall", fn := fun _ => fun
  | [d1, d2] => { results := [.lit (.bool false)], args := [d1, d2] }
  | _ => none }
def FnExactDiskFallWrongFalsely : Prop := fnExactDiskFallRow.holds Try.pinned (OpenSpec.ofChange fnExactDiskFallWrong)

/-- 'laws.FnExactDiskReset': WHATEVER THE INPUT: true; the input reads as it did. -/
def fnExactDiskResetSpec : ChangeSpec := { name := "fnExactDiskReset", fn := fun _ => fun
  | [d1, d2] => { results := [.lit (.bool true)], args := [d1, d2] }
  | _ => none }
def fnExactDiskResetRow : OpenClaim := { program := "ytnejpihjlkpcgaa", sum := "811d6bcd72152420d28b412d56cace07d297bcb5530a1f979e11f4ed8e9d0b3f", func := "loop.example/g00801/laws.FnExactDiskReset", spec := "fnExactDiskReset", apart := false }
def FnExactDiskResetSaid : Prop := fnExactDiskResetRow.holds Try.pinned (OpenSpec.ofChange fnExactDiskResetSpec)

/-- ITS FALSE NEIGHBOUR: 'it returns false'. Refute it at one input. -/
def fnExactDiskResetWrong : ChangeSpec := { name := "fnExactDiskReset", fn := fun _ => fun
  | [d1, d2] => { results := [.lit (.bool false)], args := [d1, d2] }
  | _ => none }
def FnExactDiskResetWrongFalsely : Prop := fnExactDiskResetRow.holds Try.pinned (OpenSpec.ofChange fnExactDiskResetWrong)

/-- 'laws.FnExactDiskWrite': WHATEVER THE INPUT: true; the input reads as it did. -/
def fnExactDiskWriteSpec : ChangeSpec := { name := "fnExactDiskWrite", fn := fun _ => fun
  | [d1, d2] => { results := [.lit (.bool true)], args := [d1, d2] }
  | _ => none }
def fnExactDiskWriteRow : OpenClaim := { program := "ytnejpihjlkpcgaa", sum := "811d6bcd72152420d28b412d56cace07d297bcb5530a1f979e11f4ed8e9d0b3f", func := "loop.example/g00801/laws.FnExactDiskWrite", spec := "fnExactDiskWrite", apart := false }
def FnExactDiskWriteSaid : Prop := fnExactDiskWriteRow.holds Try.pinned (OpenSpec.ofChange fnExactDiskWriteSpec)

/-- ITS FALSE NEIGHBOUR: 'it returns false'. Refute it at one input. -/
def fnExactDiskWriteWrong : ChangeSpec := { name := "fnExactDiskWrite", fn := fun _ => fun
  | [d1, d2] => { results := [.lit (.bool false)], args := [d1, d2] }
  | _ => none }
def FnExactDiskWriteWrongFalsely : Prop := fnExactDiskWriteRow.holds Try.pinned (OpenSpec.ofChange fnExactDiskWriteWrong)

/-- 'laws.FnExactMsgWorth': WHATEVER THE INPUT: true; the input reads as it did. -/
def fnExactMsgWorthSpec : ChangeSpec := { name := "fnExactMsgWorth", fn := fun _ => fun
  | [d] => { results := [.lit (.bool true)], args := [d] }
  | _ => none }
def fnExactMsgWorthRow : OpenClaim := { program := "ytnejpihjlkpcgaa", sum := "811d6bcd72152420d28b412d56cace07d297bcb5530a1f979e11f4ed8e9d0b3f", func := "loop.example/g00801/laws.FnExactMsgWorth", spec := "fnExactMsgWorth", apart := false }
def FnExactMsgWorthSaid : Prop := fnExactMsgWorthRow.holds Try.pinned (OpenSpec.ofChange fnExactMsgWorthSpec)

/-- ITS FALSE NEIGHBOUR: 'it returns false'. Refute it at one input. -/
def fnExactMsgWorthWrong : ChangeSpec := { name := "fnExactMsgWorth", fn := fun _ => fun
  | [d] => { results := [.lit (.bool false)], args := [d] }
  | _ => none }
def FnExactMsgWorthWrongFalsely : Prop := fnExactMsgWorthRow.holds Try.pinned (OpenSpec.ofChange fnExactMsgWorthWrong)

/-- 'laws.FnExactGetNum': WHATEVER THE INPUT: true; the input reads as it did. -/
def fnExactGetNumSpec : ChangeSpec := { name := "fnExactGetNum", fn := fun _ => fun
  | [d1, d2] => { results := [.lit (.bool true)], args := [d1, d2] }
  | _ => none }
def fnExactGetNumRow : OpenClaim := { program := "ytnejpihjlkpcgaa", sum := "811d6bcd72152420d28b412d56cace07d297bcb5530a1f979e11f4ed8e9d0b3f", func := "loop.example/g00801/laws.FnExactGetNum", spec := "fnExactGetNum", apart := false }
def FnExactGetNumSaid : Prop := fnExactGetNumRow.holds Try.pinned (OpenSpec.ofChange fnExactGetNumSpec)

/-- ITS FALSE NEIGHBOUR: 'it returns false'. Refute it at one input. -/
def fnExactGetNumWrong : ChangeSpec := { name := "fnExactGetNum", fn := fun _ => fun
  | [d1, d2] => { results := [.lit (.bool false)], args := [d1, d2] }
  | _ => none }
def FnExactGetNumWrongFalsely : Prop := fnExactGetNumRow.holds Try.pinned (OpenSpec.ofChange fnExactGetNumWrong)

/-- 'laws.FnExactPutNum': WHATEVER THE INPUT: true; the input reads as it did. -/
def fnExactPutNumSpec : ChangeSpec := { name := "fnExactPutNum", fn := fun _ => fun
  | [d1, d2] => { results := [.lit (.bool true)], args := [d1, d2] }
  | _ => none }
def fnExactPutNumRow : OpenClaim := { program := "ytnejpihjlkpcgaa", sum := "811d6bcd72152420d28b412d56cace07d297bcb5530a1f979e11f4ed8e9d0b3f", func := "loop.example/g00801/laws.FnExactPutNum", spec := "fnExactPutNum", apart := false }
def FnExactPutNumSaid : Prop := fnExactPutNumRow.holds Try.pinned (OpenSpec.ofChange fnExactPutNumSpec)

/-- ITS FALSE NEIGHBOUR: 'it returns false'. Refute it at one input. -/
def fnExactPutNumWrong : ChangeSpec := { name := "fnExactPutNum", fn := fun _ => fun
  | [d1, d2] => { results := [.lit (.bool false)], args := [d1, d2] }
  | _ => none }
def FnExactPutNumWrongFalsely : Prop := fnExactPutNumRow.holds Try.pinned (OpenSpec.ofChange fnExactPutNumWrong)

/- THE SECOND FORM. 'bulk': how many values and letters a reading holds, each counted each time it is reached (what is shared counts as often as it is met; a slice's spare places count too). A statement '..UptoSaid' is the law's where the arguments, and the package variables that the reading takes, are together of bulk at most 1048576: NARROWER than '..Said'. Prove '..Said' where nothing that the law and all that it calls make is longer than what came in: it says more and counts as full. Else prove '..UptoSaid'. A law counts once. -/
mutual
def uptoBulk {H : Type} : DataW H → Nat
  | .lit (.string bytes) => bytes.length + 1
  | .lit _ => 1
  | .nil => 1
  | .ptr d => uptoBulk d + 1
  | .slice elems spare => uptoBulkAll elems + uptoBulkAll spare + 1
  | .agg parts => uptoBulkAll parts + 1
  | .iface _ d => uptoBulk d + 1
  | .map entries => uptoBulkEntries entries + 1
  | .held _ => 1
def uptoBulkAll {H : Type} : List (DataW H) → Nat
  | [] => 0
  | d :: r => uptoBulk d + uptoBulkAll r
def uptoBulkEntries {H : Type} : List (Lit × DataW H) → Nat
  | [] => 0
  | x :: r => uptoBulkEntry x + uptoBulkEntries r
def uptoBulkEntry {H : Type} : Lit × DataW H → Nat
  | (.string bytes, d) => bytes.length + uptoBulk d + 1
  | (_, d) => uptoBulk d + 1
 end
def uptoSmall : (H : Type) → List (DataW H) → Bool := fun _ ds => decide (uptoBulkAll ds ≤ 1048576)
def OpenSpec.upto (s : _root_.Go.ChangeSpec) : _root_.Go.OpenSpec := { _root_.Go.OpenSpec.ofChange s with cond := some uptoSmall }

/-- 'laws.FnExactAccTake', WHERE WHAT IT READS IS OF BULK AT MOST 1048576: true; the input reads as it did. -/
def fnExactAccTakeUptoRow : OpenClaim := { program := "ytnejpihjlkpcgaa", sum := "811d6bcd72152420d28b412d56cace07d297bcb5530a1f979e11f4ed8e9d0b3f", func := "loop.example/g00801/laws.FnExactAccTake", spec := "fnExactAccTake", apart := false, narrowed := true }
def FnExactAccTakeUptoSaid : Prop := fnExactAccTakeUptoRow.holds Try.pinned (OpenSpec.upto fnExactAccTakeSpec)

/-- 'laws.FnExactDiskOk', WHERE WHAT IT READS IS OF BULK AT MOST 1048576: true; the input reads as it did. -/
def fnExactDiskOkUptoRow : OpenClaim := { program := "ytnejpihjlkpcgaa", sum := "811d6bcd72152420d28b412d56cace07d297bcb5530a1f979e11f4ed8e9d0b3f", func := "loop.example/g00801/laws.FnExactDiskOk", spec := "fnExactDiskOk", apart := false, narrowed := true }
def FnExactDiskOkUptoSaid : Prop := fnExactDiskOkUptoRow.holds Try.pinned (OpenSpec.upto fnExactDiskOkSpec)

/-- 'laws.FnExactDiskSame', WHERE WHAT IT READS IS OF BULK AT MOST 1048576: true; the input reads as it did. -/
def fnExactDiskSameUptoRow : OpenClaim := { program := "ytnejpihjlkpcgaa", sum := "811d6bcd72152420d28b412d56cace07d297bcb5530a1f979e11f4ed8e9d0b3f", func := "loop.example/g00801/laws.FnExactDiskSame", spec := "fnExactDiskSame", apart := false, narrowed := true }
def FnExactDiskSameUptoSaid : Prop := fnExactDiskSameUptoRow.holds Try.pinned (OpenSpec.upto fnExactDiskSameSpec)

/-- 'laws.FnDisk', WHERE WHAT IT READS IS OF BULK AT MOST 1048576: true; the input reads as it did. -/
def fnDiskUptoRow : OpenClaim := { program := "ytnejpihjlkpcgaa", sum := "811d6bcd72152420d28b412d56cace07d297bcb5530a1f979e11f4ed8e9d0b3f", func := "loop.example/g00801/laws.FnDisk", spec := "fnDisk", apart := false, narrowed := true }
def FnDiskUptoSaid : Prop := fnDiskUptoRow.holds Try.pinned (OpenSpec.upto fnDiskSpec)

/-- 'laws.FnExactDiskAll', WHERE WHAT IT READS IS OF BULK AT MOST 1048576: true; the input reads as it did. -/
def fnExactDiskAllUptoRow : OpenClaim := { program := "ytnejpihjlkpcgaa", sum := "811d6bcd72152420d28b412d56cace07d297bcb5530a1f979e11f4ed8e9d0b3f", func := "loop.example/g00801/laws.FnExactDiskAll", spec := "fnExactDiskAll", apart := false, narrowed := true }
def FnExactDiskAllUptoSaid : Prop := fnExactDiskAllUptoRow.holds Try.pinned (OpenSpec.upto fnExactDiskAllSpec)

/-- 'laws.FnExactDiskSync', WHERE WHAT IT READS IS OF BULK AT MOST 1048576: true; the input reads as it did. -/
def fnExactDiskSyncUptoRow : OpenClaim := { program := "ytnejpihjlkpcgaa", sum := "811d6bcd72152420d28b412d56cace07d297bcb5530a1f979e11f4ed8e9d0b3f", func := "loop.example/g00801/laws.FnExactDiskSync", spec := "fnExactDiskSync", apart := false, narrowed := true }
def FnExactDiskSyncUptoSaid : Prop := fnExactDiskSyncUptoRow.holds Try.pinned (OpenSpec.upto fnExactDiskSyncSpec)

/-- 'laws.FnExactDiskFall', WHERE WHAT IT READS IS OF BULK AT MOST 1048576: true; the input reads as it did. -/
def fnExactDiskFallUptoRow : OpenClaim := { program := "ytnejpihjlkpcgaa", sum := "811d6bcd72152420d28b412d56cace07d297bcb5530a1f979e11f4ed8e9d0b3f", func := "loop.example/g00801/laws.FnExactDiskFall", spec := "fnExactDiskFall", apart := false, narrowed := true }
def FnExactDiskFallUptoSaid : Prop := fnExactDiskFallUptoRow.holds Try.pinned (OpenSpec.upto fnExactDiskFallSpec)

/-- 'laws.FnExactDiskReset', WHERE WHAT IT READS IS OF BULK AT MOST 1048576: true; the input reads as it did. -/
def fnExactDiskResetUptoRow : OpenClaim := { program := "ytnejpihjlkpcgaa", sum := "811d6bcd72152420d28b412d56cace07d297bcb5530a1f979e11f4ed8e9d0b3f", func := "loop.example/g00801/laws.FnExactDiskReset", spec := "fnExactDiskReset", apart := false, narrowed := true }
def FnExactDiskResetUptoSaid : Prop := fnExactDiskResetUptoRow.holds Try.pinned (OpenSpec.upto fnExactDiskResetSpec)

/-- 'laws.FnExactDiskWrite', WHERE WHAT IT READS IS OF BULK AT MOST 1048576: true; the input reads as it did. -/
def fnExactDiskWriteUptoRow : OpenClaim := { program := "ytnejpihjlkpcgaa", sum := "811d6bcd72152420d28b412d56cace07d297bcb5530a1f979e11f4ed8e9d0b3f", func := "loop.example/g00801/laws.FnExactDiskWrite", spec := "fnExactDiskWrite", apart := false, narrowed := true }
def FnExactDiskWriteUptoSaid : Prop := fnExactDiskWriteUptoRow.holds Try.pinned (OpenSpec.upto fnExactDiskWriteSpec)

/-- 'laws.FnExactMsgWorth', WHERE WHAT IT READS IS OF BULK AT MOST 1048576: true; the input reads as it did. -/
def fnExactMsgWorthUptoRow : OpenClaim := { program := "ytnejpihjlkpcgaa", sum := "811d6bcd72152420d28b412d56cace07d297bcb5530a1f979e11f4ed8e9d0b3f", func := "loop.example/g00801/laws.FnExactMsgWorth", spec := "fnExactMsgWorth", apart := false, narrowed := true }
def FnExactMsgWorthUptoSaid : Prop := fnExactMsgWorthUptoRow.holds Try.pinned (OpenSpec.upto fnExactMsgWorthSpec)

/-- 'laws.FnExactGetNum', WHERE WHAT IT READS IS OF BULK AT MOST 1048576: true; the input reads as it did. -/
def fnExactGetNumUptoRow : OpenClaim := { program := "ytnejpihjlkpcgaa", sum := "811d6bcd72152420d28b412d56cace07d297bcb5530a1f979e11f4ed8e9d0b3f", func := "loop.example/g00801/laws.FnExactGetNum", spec := "fnExactGetNum", apart := false, narrowed := true }
def FnExactGetNumUptoSaid : Prop := fnExactGetNumUptoRow.holds Try.pinned (OpenSpec.upto fnExactGetNumSpec)

/-- 'laws.FnExactPutNum', WHERE WHAT IT READS IS OF BULK AT MOST 1048576: true; the input reads as it did. -/
def fnExactPutNumUptoRow : OpenClaim := { program := "ytnejpihjlkpcgaa", sum := "811d6bcd72152420d28b412d56cace07d297bcb5530a1f979e11f4ed8e9d0b3f", func := "loop.example/g00801/laws.FnExactPutNum", spec := "fnExactPutNum", apart := false, narrowed := true }
def FnExactPutNumUptoSaid : Prop := fnExactPutNumUptoRow.holds Try.pinned (OpenSpec.upto fnExactPutNumSpec)

end Rows
end Go.Proofs.Ytnejpihjlkpcgaa
