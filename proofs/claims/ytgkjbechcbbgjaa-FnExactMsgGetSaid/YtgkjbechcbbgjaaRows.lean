/-
  No cell of these rows narrows 'for every input' (looked for: loops, veiled, ifaces, maps, wideKeys, modest, calm, conditions, laid).
  DERIVED. THE GIVEN ROWS OF THIS SEAT. 12 by the template 'for every input the law returns true; each argument reads behind the call as it read before'; 0 by the template 'total and deterministic' (their statements: YtgkjbechcbbgjaaTotals.lean).
  GIVEN WITH THE SEED: the statements are not yours to turn. If you find one false, say at which input.
  Laid BY PROGRAM, IN A SANDBOX (cutbox-rows.mjs): the forced cells as the released guide's own fill.sh prints them over the translation dccbffcfd0d5ddab… (all of the seat's roots in one cut). By AI agents, Wed Nov 11 2026. No macro, syntax, notation, axiom, sorry.
-/
import Derived.Test.YtgkjbechcbbgjaaChecked
import GoSem.Claim
import GoSem.ClaimJoined
import GoSem.ClaimMapViews
import Derived.JoinedTies
import Derived.KernelRfl
namespace Go.Proofs.Ytgkjbechcbbgjaa
/- THE CELL 'sum', in the pinned program and in every row, IS THE sha256 OF THE DUMP (.gsa) THAT YtgkjbechcbbgjaaProg.lean LOADS. Nothing in Lean hashes anything: it is a label: what it is worth is what the hold of that sum in a sandbox is worth. -/
noncomputable def Try.pinned : Pinned := { name := "ytgkjbechcbbgjaa", sum := "dccbffcfd0d5ddabba64c45e437bf4a56ae23b649940cceb79e4cd5c19428b54", checked := Try.checked }
namespace Rows
def none {H : Type} : Left H := { results := [], args := [] }

/-- 'laws.FnExactFramePut': WHATEVER THE INPUT: true; the input reads as it did. -/
def fnExactFramePutSpec : ChangeSpec := { name := "fnExactFramePut", fn := fun _ => fun
  | [d1, d2] => { results := [.lit (.bool true)], args := [d1, d2] }
  | _ => none }
def fnExactFramePutRow : OpenClaim := { program := "ytgkjbechcbbgjaa", sum := "dccbffcfd0d5ddabba64c45e437bf4a56ae23b649940cceb79e4cd5c19428b54", func := "loop.example/g00801/laws.FnExactFramePut", spec := "fnExactFramePut", apart := false }
def FnExactFramePutSaid : Prop := fnExactFramePutRow.holds Try.pinned (OpenSpec.ofChange fnExactFramePutSpec)

/-- ITS FALSE NEIGHBOUR: 'it returns false'. Refute it at one input. -/
def fnExactFramePutWrong : ChangeSpec := { name := "fnExactFramePut", fn := fun _ => fun
  | [d1, d2] => { results := [.lit (.bool false)], args := [d1, d2] }
  | _ => none }
def FnExactFramePutWrongFalsely : Prop := fnExactFramePutRow.holds Try.pinned (OpenSpec.ofChange fnExactFramePutWrong)

/-- 'laws.FnExactFrameGet': WHATEVER THE INPUT: true; the input reads as it did. -/
def fnExactFrameGetSpec : ChangeSpec := { name := "fnExactFrameGet", fn := fun _ => fun
  | [d1, d2] => { results := [.lit (.bool true)], args := [d1, d2] }
  | _ => none }
def fnExactFrameGetRow : OpenClaim := { program := "ytgkjbechcbbgjaa", sum := "dccbffcfd0d5ddabba64c45e437bf4a56ae23b649940cceb79e4cd5c19428b54", func := "loop.example/g00801/laws.FnExactFrameGet", spec := "fnExactFrameGet", apart := false }
def FnExactFrameGetSaid : Prop := fnExactFrameGetRow.holds Try.pinned (OpenSpec.ofChange fnExactFrameGetSpec)

/-- ITS FALSE NEIGHBOUR: 'it returns false'. Refute it at one input. -/
def fnExactFrameGetWrong : ChangeSpec := { name := "fnExactFrameGet", fn := fun _ => fun
  | [d1, d2] => { results := [.lit (.bool false)], args := [d1, d2] }
  | _ => none }
def FnExactFrameGetWrongFalsely : Prop := fnExactFrameGetRow.holds Try.pinned (OpenSpec.ofChange fnExactFrameGetWrong)

/-- 'laws.FnExactTorn': WHATEVER THE INPUT: true; the input reads as it did. -/
def fnExactTornSpec : ChangeSpec := { name := "fnExactTorn", fn := fun _ => fun
  | [d] => { results := [.lit (.bool true)], args := [d] }
  | _ => none }
def fnExactTornRow : OpenClaim := { program := "ytgkjbechcbbgjaa", sum := "dccbffcfd0d5ddabba64c45e437bf4a56ae23b649940cceb79e4cd5c19428b54", func := "loop.example/g00801/laws.FnExactTorn", spec := "fnExactTorn", apart := false }
def FnExactTornSaid : Prop := fnExactTornRow.holds Try.pinned (OpenSpec.ofChange fnExactTornSpec)

/-- ITS FALSE NEIGHBOUR: 'it returns false'. Refute it at one input. -/
def fnExactTornWrong : ChangeSpec := { name := "fnExactTorn", fn := fun _ => fun
  | [d] => { results := [.lit (.bool false)], args := [d] }
  | _ => none }
def FnExactTornWrongFalsely : Prop := fnExactTornRow.holds Try.pinned (OpenSpec.ofChange fnExactTornWrong)

/-- 'laws.FnExactScan': WHATEVER THE INPUT: true; the input reads as it did. -/
def fnExactScanSpec : ChangeSpec := { name := "fnExactScan", fn := fun _ => fun
  | [d] => { results := [.lit (.bool true)], args := [d] }
  | _ => none }
def fnExactScanRow : OpenClaim := { program := "ytgkjbechcbbgjaa", sum := "dccbffcfd0d5ddabba64c45e437bf4a56ae23b649940cceb79e4cd5c19428b54", func := "loop.example/g00801/laws.FnExactScan", spec := "fnExactScan", apart := false }
def FnExactScanSaid : Prop := fnExactScanRow.holds Try.pinned (OpenSpec.ofChange fnExactScanSpec)

/-- ITS FALSE NEIGHBOUR: 'it returns false'. Refute it at one input. -/
def fnExactScanWrong : ChangeSpec := { name := "fnExactScan", fn := fun _ => fun
  | [d] => { results := [.lit (.bool false)], args := [d] }
  | _ => none }
def FnExactScanWrongFalsely : Prop := fnExactScanRow.holds Try.pinned (OpenSpec.ofChange fnExactScanWrong)

/-- 'laws.FnExactFrames': WHATEVER THE INPUT: true; the input reads as it did. -/
def fnExactFramesSpec : ChangeSpec := { name := "fnExactFrames", fn := fun _ => fun
  | [d] => { results := [.lit (.bool true)], args := [d] }
  | _ => none }
def fnExactFramesRow : OpenClaim := { program := "ytgkjbechcbbgjaa", sum := "dccbffcfd0d5ddabba64c45e437bf4a56ae23b649940cceb79e4cd5c19428b54", func := "loop.example/g00801/laws.FnExactFrames", spec := "fnExactFrames", apart := false }
def FnExactFramesSaid : Prop := fnExactFramesRow.holds Try.pinned (OpenSpec.ofChange fnExactFramesSpec)

/-- ITS FALSE NEIGHBOUR: 'it returns false'. Refute it at one input. -/
def fnExactFramesWrong : ChangeSpec := { name := "fnExactFrames", fn := fun _ => fun
  | [d] => { results := [.lit (.bool false)], args := [d] }
  | _ => none }
def FnExactFramesWrongFalsely : Prop := fnExactFramesRow.holds Try.pinned (OpenSpec.ofChange fnExactFramesWrong)

/-- 'laws.FnFrames': WHATEVER THE INPUT: true; the input reads as it did. -/
def fnFramesSpec : ChangeSpec := { name := "fnFrames", fn := fun _ => fun
  | [d] => { results := [.lit (.bool true)], args := [d] }
  | _ => none }
def fnFramesRow : OpenClaim := { program := "ytgkjbechcbbgjaa", sum := "dccbffcfd0d5ddabba64c45e437bf4a56ae23b649940cceb79e4cd5c19428b54", func := "loop.example/g00801/laws.FnFrames", spec := "fnFrames", apart := false }
def FnFramesSaid : Prop := fnFramesRow.holds Try.pinned (OpenSpec.ofChange fnFramesSpec)

/-- ITS FALSE NEIGHBOUR: 'it returns false'. Refute it at one input. -/
def fnFramesWrong : ChangeSpec := { name := "fnFrames", fn := fun _ => fun
  | [d] => { results := [.lit (.bool false)], args := [d] }
  | _ => none }
def FnFramesWrongFalsely : Prop := fnFramesRow.holds Try.pinned (OpenSpec.ofChange fnFramesWrong)

/-- 'laws.FnExactPutNums': WHATEVER THE INPUT: true; the input reads as it did. -/
def fnExactPutNumsSpec : ChangeSpec := { name := "fnExactPutNums", fn := fun _ => fun
  | [d1, d2] => { results := [.lit (.bool true)], args := [d1, d2] }
  | _ => none }
def fnExactPutNumsRow : OpenClaim := { program := "ytgkjbechcbbgjaa", sum := "dccbffcfd0d5ddabba64c45e437bf4a56ae23b649940cceb79e4cd5c19428b54", func := "loop.example/g00801/laws.FnExactPutNums", spec := "fnExactPutNums", apart := false }
def FnExactPutNumsSaid : Prop := fnExactPutNumsRow.holds Try.pinned (OpenSpec.ofChange fnExactPutNumsSpec)

/-- ITS FALSE NEIGHBOUR: 'it returns false'. Refute it at one input. -/
def fnExactPutNumsWrong : ChangeSpec := { name := "fnExactPutNums", fn := fun _ => fun
  | [d1, d2] => { results := [.lit (.bool false)], args := [d1, d2] }
  | _ => none }
def FnExactPutNumsWrongFalsely : Prop := fnExactPutNumsRow.holds Try.pinned (OpenSpec.ofChange fnExactPutNumsWrong)

/-- 'laws.FnExactGetNums': WHATEVER THE INPUT: true; the input reads as it did. -/
def fnExactGetNumsSpec : ChangeSpec := { name := "fnExactGetNums", fn := fun _ => fun
  | [d1, d2, d3] => { results := [.lit (.bool true)], args := [d1, d2, d3] }
  | _ => none }
def fnExactGetNumsRow : OpenClaim := { program := "ytgkjbechcbbgjaa", sum := "dccbffcfd0d5ddabba64c45e437bf4a56ae23b649940cceb79e4cd5c19428b54", func := "loop.example/g00801/laws.FnExactGetNums", spec := "fnExactGetNums", apart := false }
def FnExactGetNumsSaid : Prop := fnExactGetNumsRow.holds Try.pinned (OpenSpec.ofChange fnExactGetNumsSpec)

/-- ITS FALSE NEIGHBOUR: 'it returns false'. Refute it at one input. -/
def fnExactGetNumsWrong : ChangeSpec := { name := "fnExactGetNums", fn := fun _ => fun
  | [d1, d2, d3] => { results := [.lit (.bool false)], args := [d1, d2, d3] }
  | _ => none }
def FnExactGetNumsWrongFalsely : Prop := fnExactGetNumsRow.holds Try.pinned (OpenSpec.ofChange fnExactGetNumsWrong)

/-- 'laws.FnExactMsgPut': WHATEVER THE INPUT: true; the input reads as it did. -/
def fnExactMsgPutSpec : ChangeSpec := { name := "fnExactMsgPut", fn := fun _ => fun
  | [d1, d2] => { results := [.lit (.bool true)], args := [d1, d2] }
  | _ => none }
def fnExactMsgPutRow : OpenClaim := { program := "ytgkjbechcbbgjaa", sum := "dccbffcfd0d5ddabba64c45e437bf4a56ae23b649940cceb79e4cd5c19428b54", func := "loop.example/g00801/laws.FnExactMsgPut", spec := "fnExactMsgPut", apart := false }
def FnExactMsgPutSaid : Prop := fnExactMsgPutRow.holds Try.pinned (OpenSpec.ofChange fnExactMsgPutSpec)

/-- ITS FALSE NEIGHBOUR: 'it returns false'. Refute it at one input. -/
def fnExactMsgPutWrong : ChangeSpec := { name := "fnExactMsgPut", fn := fun _ => fun
  | [d1, d2] => { results := [.lit (.bool false)], args := [d1, d2] }
  | _ => none }
def FnExactMsgPutWrongFalsely : Prop := fnExactMsgPutRow.holds Try.pinned (OpenSpec.ofChange fnExactMsgPutWrong)

/-- 'laws.FnExactMsgGet': WHATEVER THE INPUT: true; the input reads as it did. -/
def fnExactMsgGetSpec : ChangeSpec := { name := "fnExactMsgGet", fn := fun _ => fun
  | [d1, d2] => { results := [.lit (.bool true)], args := [d1, d2] }
  | _ => none }
def fnExactMsgGetRow : OpenClaim := { program := "ytgkjbechcbbgjaa", sum := "dccbffcfd0d5ddabba64c45e437bf4a56ae23b649940cceb79e4cd5c19428b54", func := "loop.example/g00801/laws.FnExactMsgGet", spec := "fnExactMsgGet", apart := false }
def FnExactMsgGetSaid : Prop := fnExactMsgGetRow.holds Try.pinned (OpenSpec.ofChange fnExactMsgGetSpec)

/-- ITS FALSE NEIGHBOUR: 'it returns false'. Refute it at one input. -/
def fnExactMsgGetWrong : ChangeSpec := { name := "fnExactMsgGet", fn := fun _ => fun
  | [d1, d2] => { results := [.lit (.bool false)], args := [d1, d2] }
  | _ => none }
def FnExactMsgGetWrongFalsely : Prop := fnExactMsgGetRow.holds Try.pinned (OpenSpec.ofChange fnExactMsgGetWrong)

/-- 'laws.FnExactOutNew': WHATEVER THE INPUT: true; the input reads as it did. -/
def fnExactOutNewSpec : ChangeSpec := { name := "fnExactOutNew", fn := fun _ => fun
  | [] => { results := [.lit (.bool true)], args := [] }
  | _ => none }
def fnExactOutNewRow : OpenClaim := { program := "ytgkjbechcbbgjaa", sum := "dccbffcfd0d5ddabba64c45e437bf4a56ae23b649940cceb79e4cd5c19428b54", func := "loop.example/g00801/laws.FnExactOutNew", spec := "fnExactOutNew", apart := false }
def FnExactOutNewSaid : Prop := fnExactOutNewRow.holds Try.pinned (OpenSpec.ofChange fnExactOutNewSpec)

/-- ITS FALSE NEIGHBOUR: 'it returns false'. Refute it at one input. -/
def fnExactOutNewWrong : ChangeSpec := { name := "fnExactOutNew", fn := fun _ => fun
  | [] => { results := [.lit (.bool false)], args := [] }
  | _ => none }
def FnExactOutNewWrongFalsely : Prop := fnExactOutNewRow.holds Try.pinned (OpenSpec.ofChange fnExactOutNewWrong)

/-- 'laws.FnExactOutSame': WHATEVER THE INPUT: true; the input reads as it did. -/
def fnExactOutSameSpec : ChangeSpec := { name := "fnExactOutSame", fn := fun _ => fun
  | [d1, d2] => { results := [.lit (.bool true)], args := [d1, d2] }
  | _ => none }
def fnExactOutSameRow : OpenClaim := { program := "ytgkjbechcbbgjaa", sum := "dccbffcfd0d5ddabba64c45e437bf4a56ae23b649940cceb79e4cd5c19428b54", func := "loop.example/g00801/laws.FnExactOutSame", spec := "fnExactOutSame", apart := false }
def FnExactOutSameSaid : Prop := fnExactOutSameRow.holds Try.pinned (OpenSpec.ofChange fnExactOutSameSpec)

/-- ITS FALSE NEIGHBOUR: 'it returns false'. Refute it at one input. -/
def fnExactOutSameWrong : ChangeSpec := { name := "fnExactOutSame", fn := fun _ => fun
  | [d1, d2] => { results := [.lit (.bool false)], args := [d1, d2] }
  | _ => none }
def FnExactOutSameWrongFalsely : Prop := fnExactOutSameRow.holds Try.pinned (OpenSpec.ofChange fnExactOutSameWrong)

/- THE SECOND FORM. 'bulk': how many values and letters a reading holds, each counted each time it is reached (what is shared counts as often as it is met; a slice's spare places count too). A statement '..UptoSaid' is the law's where the arguments, and the package variables that the reading takes, are together of bulk at most 1048576: NARROWER than '..Said'. Prove '..Said' where nothing that the law and all that it calls make is longer than what came in: it says more and counts as full. Else prove '..UptoSaid'. A law counts once. -/
mutual
def uptoBulk {H : Type} : DataW H → Nat
  | .lit (.string bytes) => bytes.length + 1
  | .lit _ => 1
  | .nil => 1
  | .ptr d => uptoBulk d + 1
  | .slice elems spare => uptoBulkAll elems + uptoBulkAll spare + 1
  | .agg parts => uptoBulkAll parts + 1
  | .iface _ d => uptoBulk d + 1
  | .map entries => uptoBulkEntries entries + 1
  | .held _ => 1
def uptoBulkAll {H : Type} : List (DataW H) → Nat
  | [] => 0
  | d :: r => uptoBulk d + uptoBulkAll r
def uptoBulkEntries {H : Type} : List (Lit × DataW H) → Nat
  | [] => 0
  | x :: r => uptoBulkEntry x + uptoBulkEntries r
def uptoBulkEntry {H : Type} : Lit × DataW H → Nat
  | (.string bytes, d) => bytes.length + uptoBulk d + 1
  | (_, d) => uptoBulk d + 1
 end
def uptoSmall : (H : Type) → List (DataW H) → Bool := fun _ ds => decide (uptoBulkAll ds ≤ 1048576)
def OpenSpec.upto (s : _root_.Go.ChangeSpec) : _root_.Go.OpenSpec := { _root_.Go.OpenSpec.ofChange s with cond := some uptoSmall }

/-- 'laws.FnExactFramePut', WHERE WHAT IT READS IS OF BULK AT MOST 1048576: true; the input reads as it did. -/
def fnExactFramePutUptoRow : OpenClaim := { program := "ytgkjbechcbbgjaa", sum := "dccbffcfd0d5ddabba64c45e437bf4a56ae23b649940cceb79e4cd5c19428b54", func := "loop.example/g00801/laws.FnExactFramePut", spec := "fnExactFramePut", apart := false, narrowed := true }
def FnExactFramePutUptoSaid : Prop := fnExactFramePutUptoRow.holds Try.pinned (OpenSpec.upto fnExactFramePutSpec)

/-- 'laws.FnExactFrameGet', WHERE WHAT IT READS IS OF BULK AT MOST 1048576: true; the input reads as it did. -/
def fnExactFrameGetUptoRow : OpenClaim := { program := "ytgkjbechcbbgjaa", sum := "dccbffcfd0d5ddabba64c45e437bf4a56ae23b649940cceb79e4cd5c19428b54", func := "loop.example/g00801/laws.FnExactFrameGet", spec := "fnExactFrameGet", apart := false, narrowed := true }
def FnExactFrameGetUptoSaid : Prop := fnExactFrameGetUptoRow.holds Try.pinned (OpenSpec.upto fnExactFrameGetSpec)

/-- 'laws.FnExactTorn', WHERE WHAT IT READS IS OF BULK AT MOST 1048576: true; the input reads as it did. -/
def fnExactTornUptoRow : OpenClaim := { program := "ytgkjbechcbbgjaa", sum := "dccbffcfd0d5ddabba64c45e437bf4a56ae23b649940cceb79e4cd5c19428b54", func := "loop.example/g00801/laws.FnExactTorn", spec := "fnExactTorn", apart := false, narrowed := true }
def FnExactTornUptoSaid : Prop := fnExactTornUptoRow.holds Try.pinned (OpenSpec.upto fnExactTornSpec)

/-- 'laws.FnExactScan', WHERE WHAT IT READS IS OF BULK AT MOST 1048576: true; the input reads as it did. -/
def fnExactScanUptoRow : OpenClaim := { program := "ytgkjbechcbbgjaa", sum := "dccbffcfd0d5ddabba64c45e437bf4a56ae23b649940cceb79e4cd5c19428b54", func := "loop.example/g00801/laws.FnExactScan", spec := "fnExactScan", apart := false, narrowed := true }
def FnExactScanUptoSaid : Prop := fnExactScanUptoRow.holds Try.pinned (OpenSpec.upto fnExactScanSpec)

/-- 'laws.FnExactFrames', WHERE WHAT IT READS IS OF BULK AT MOST 1048576: true; the input reads as it did. -/
def fnExactFramesUptoRow : OpenClaim := { program := "ytgkjbechcbbgjaa", sum := "dccbffcfd0d5ddabba64c45e437bf4a56ae23b649940cceb79e4cd5c19428b54", func := "loop.example/g00801/laws.FnExactFrames", spec := "fnExactFrames", apart := false, narrowed := true }
def FnExactFramesUptoSaid : Prop := fnExactFramesUptoRow.holds Try.pinned (OpenSpec.upto fnExactFramesSpec)

/-- 'laws.FnFrames', WHERE WHAT IT READS IS OF BULK AT MOST 1048576: true; the input reads as it did. -/
def fnFramesUptoRow : OpenClaim := { program := "ytgkjbechcbbgjaa", sum := "dccbffcfd0d5ddabba64c45e437bf4a56ae23b649940cceb79e4cd5c19428b54", func := "loop.example/g00801/laws.FnFrames", spec := "fnFrames", apart := false, narrowed := true }
def FnFramesUptoSaid : Prop := fnFramesUptoRow.holds Try.pinned (OpenSpec.upto fnFramesSpec)

/-- 'laws.FnExactPutNums', WHERE WHAT IT READS IS OF BULK AT MOST 1048576: true; the input reads as it did. -/
def fnExactPutNumsUptoRow : OpenClaim := { program := "ytgkjbechcbbgjaa", sum := "dccbffcfd0d5ddabba64c45e437bf4a56ae23b649940cceb79e4cd5c19428b54", func := "loop.example/g00801/laws.FnExactPutNums", spec := "fnExactPutNums", apart := false, narrowed := true }
def FnExactPutNumsUptoSaid : Prop := fnExactPutNumsUptoRow.holds Try.pinned (OpenSpec.upto fnExactPutNumsSpec)

/-- 'laws.FnExactGetNums', WHERE WHAT IT READS IS OF BULK AT MOST 1048576: true; the input reads as it did. -/
def fnExactGetNumsUptoRow : OpenClaim := { program := "ytgkjbechcbbgjaa", sum := "dccbffcfd0d5ddabba64c45e437bf4a56ae23b649940cceb79e4cd5c19428b54", func := "loop.example/g00801/laws.FnExactGetNums", spec := "fnExactGetNums", apart := false, narrowed := true }
def FnExactGetNumsUptoSaid : Prop := fnExactGetNumsUptoRow.holds Try.pinned (OpenSpec.upto fnExactGetNumsSpec)

/-- 'laws.FnExactMsgPut', WHERE WHAT IT READS IS OF BULK AT MOST 1048576: true; the input reads as it did. -/
def fnExactMsgPutUptoRow : OpenClaim := { program := "ytgkjbechcbbgjaa", sum := "dccbffcfd0d5ddabba64c45e437bf4a56ae23b649940cceb79e4cd5c19428b54", func := "loop.example/g00801/laws.FnExactMsgPut", spec := "fnExactMsgPut", apart := false, narrowed := true }
def FnExactMsgPutUptoSaid : Prop := fnExactMsgPutUptoRow.holds Try.pinned (OpenSpec.upto fnExactMsgPutSpec)

/-- 'laws.FnExactMsgGet', WHERE WHAT IT READS IS OF BULK AT MOST 1048576: true; the input reads as it did. -/
def fnExactMsgGetUptoRow : OpenClaim := { program := "ytgkjbechcbbgjaa", sum := "dccbffcfd0d5ddabba64c45e437bf4a56ae23b649940cceb79e4cd5c19428b54", func := "loop.example/g00801/laws.FnExactMsgGet", spec := "fnExactMsgGet", apart := false, narrowed := true }
def FnExactMsgGetUptoSaid : Prop := fnExactMsgGetUptoRow.holds Try.pinned (OpenSpec.upto fnExactMsgGetSpec)

/-- 'laws.FnExactOutNew', WHERE WHAT IT READS IS OF BULK AT MOST 1048576: true; the input reads as it did. -/
def fnExactOutNewUptoRow : OpenClaim := { program := "ytgkjbechcbbgjaa", sum := "dccbffcfd0d5ddabba64c45e437bf4a56ae23b649940cceb79e4cd5c19428b54", func := "loop.example/g00801/laws.FnExactOutNew", spec := "fnExactOutNew", apart := false, narrowed := true }
def FnExactOutNewUptoSaid : Prop := fnExactOutNewUptoRow.holds Try.pinned (OpenSpec.upto fnExactOutNewSpec)

/-- 'laws.FnExactOutSame', WHERE WHAT IT READS IS OF BULK AT MOST 1048576: true; the input reads as it did. -/
def fnExactOutSameUptoRow : OpenClaim := { program := "ytgkjbechcbbgjaa", sum := "dccbffcfd0d5ddabba64c45e437bf4a56ae23b649940cceb79e4cd5c19428b54", func := "loop.example/g00801/laws.FnExactOutSame", spec := "fnExactOutSame", apart := false, narrowed := true }
def FnExactOutSameUptoSaid : Prop := fnExactOutSameUptoRow.holds Try.pinned (OpenSpec.upto fnExactOutSameSpec)

end Rows
end Go.Proofs.Ytgkjbechcbbgjaa
