/-
  No cell of these rows narrows 'for every input' (looked for: loops, veiled, ifaces, maps, wideKeys, modest, calm, conditions, laid).
  DERIVED. THE GIVEN ROWS OF THIS SEAT. 9 by the template 'for every input the law returns true; each argument reads behind the call as it read before'; 0 by the template 'total and deterministic' (their statements: YtfkoipmoikhehaaTotals.lean).
  GIVEN WITH THE SEED: the statements are not yours to turn. If you find one false, say at which input.
  Laid BY PROGRAM, IN A SANDBOX (cutbox-rows.mjs): the forced cells as the released guide's own fill.sh prints them over the translation d0e4b1cc351f6db5… (all of the seat's roots in one cut). By AI agents, Wed Nov 11 2026. No macro, syntax, notation, axiom, sorry.
-/
import Derived.Test.YtfkoipmoikhehaaChecked
import GoSem.Claim
import GoSem.ClaimJoined
import GoSem.ClaimMapViews
import Derived.JoinedTies
import Derived.KernelRfl
namespace Go.Proofs.Ytfkoipmoikhehaa
/- THE CELL 'sum', in the pinned program and in every row, IS THE sha256 OF THE DUMP (.gsa) THAT YtfkoipmoikhehaaProg.lean LOADS. Nothing in Lean hashes anything: it is a label: what it is worth is what the hold of that sum in a sandbox is worth. -/
noncomputable def Try.pinned : Pinned := { name := "ytfkoipmoikhehaa", sum := "d0e4b1cc351f6db52cac5a1d7aaa82f4c703c8172d36ca1ac853f3fd9ec568b8", checked := Try.checked }
namespace Rows
def none {H : Type} : Left H := { results := [], args := [] }

/-- 'laws.FnExactOutOk': WHATEVER THE INPUT: true; the input reads as it did. -/
def fnExactOutOkSpec : ChangeSpec := { name := "fnExactOutOk", fn := fun _ => fun
  | [d] => { results := [.lit (.bool true)], args := [d] }
  | _ => none }
def fnExactOutOkRow : OpenClaim := { program := "ytfkoipmoikhehaa", sum := "d0e4b1cc351f6db52cac5a1d7aaa82f4c703c8172d36ca1ac853f3fd9ec568b8", func := "loop.example/g00801/laws.FnExactOutOk", spec := "fnExactOutOk", apart := false }
def FnExactOutOkSaid : Prop := fnExactOutOkRow.holds Try.pinned (OpenSpec.ofChange fnExactOutOkSpec)

/-- ITS FALSE NEIGHBOUR: 'it returns false'. Refute it at one input. -/
def fnExactOutOkWrong : ChangeSpec := { name := "fnExactOutOk", fn := fun _ => fun
  | [d] => { results := [.lit (.bool false)], args := [d] }
  | _ => none }
def FnExactOutOkWrongFalsely : Prop := fnExactOutOkRow.holds Try.pinned (OpenSpec.ofChange fnExactOutOkWrong)

/-- 'laws.FnExactOutFirst': WHATEVER THE INPUT: true; the input reads as it did. -/
def fnExactOutFirstSpec : ChangeSpec := { name := "fnExactOutFirst", fn := fun _ => fun
  | [d] => { results := [.lit (.bool true)], args := [d] }
  | _ => none }
def fnExactOutFirstRow : OpenClaim := { program := "ytfkoipmoikhehaa", sum := "d0e4b1cc351f6db52cac5a1d7aaa82f4c703c8172d36ca1ac853f3fd9ec568b8", func := "loop.example/g00801/laws.FnExactOutFirst", spec := "fnExactOutFirst", apart := false }
def FnExactOutFirstSaid : Prop := fnExactOutFirstRow.holds Try.pinned (OpenSpec.ofChange fnExactOutFirstSpec)

/-- ITS FALSE NEIGHBOUR: 'it returns false'. Refute it at one input. -/
def fnExactOutFirstWrong : ChangeSpec := { name := "fnExactOutFirst", fn := fun _ => fun
  | [d] => { results := [.lit (.bool false)], args := [d] }
  | _ => none }
def FnExactOutFirstWrongFalsely : Prop := fnExactOutFirstRow.holds Try.pinned (OpenSpec.ofChange fnExactOutFirstWrong)

/-- 'laws.FnExactOutAt': WHATEVER THE INPUT: true; the input reads as it did. -/
def fnExactOutAtSpec : ChangeSpec := { name := "fnExactOutAt", fn := fun _ => fun
  | [d1, d2] => { results := [.lit (.bool true)], args := [d1, d2] }
  | _ => none }
def fnExactOutAtRow : OpenClaim := { program := "ytfkoipmoikhehaa", sum := "d0e4b1cc351f6db52cac5a1d7aaa82f4c703c8172d36ca1ac853f3fd9ec568b8", func := "loop.example/g00801/laws.FnExactOutAt", spec := "fnExactOutAt", apart := false }
def FnExactOutAtSaid : Prop := fnExactOutAtRow.holds Try.pinned (OpenSpec.ofChange fnExactOutAtSpec)

/-- ITS FALSE NEIGHBOUR: 'it returns false'. Refute it at one input. -/
def fnExactOutAtWrong : ChangeSpec := { name := "fnExactOutAt", fn := fun _ => fun
  | [d1, d2] => { results := [.lit (.bool false)], args := [d1, d2] }
  | _ => none }
def FnExactOutAtWrongFalsely : Prop := fnExactOutAtRow.holds Try.pinned (OpenSpec.ofChange fnExactOutAtWrong)

/-- 'laws.FnExactOutPut': WHATEVER THE INPUT: true; the input reads as it did. -/
def fnExactOutPutSpec : ChangeSpec := { name := "fnExactOutPut", fn := fun _ => fun
  | [d1, d2] => { results := [.lit (.bool true)], args := [d1, d2] }
  | _ => none }
def fnExactOutPutRow : OpenClaim := { program := "ytfkoipmoikhehaa", sum := "d0e4b1cc351f6db52cac5a1d7aaa82f4c703c8172d36ca1ac853f3fd9ec568b8", func := "loop.example/g00801/laws.FnExactOutPut", spec := "fnExactOutPut", apart := false }
def FnExactOutPutSaid : Prop := fnExactOutPutRow.holds Try.pinned (OpenSpec.ofChange fnExactOutPutSpec)

/-- ITS FALSE NEIGHBOUR: 'it returns false'. Refute it at one input. -/
def fnExactOutPutWrong : ChangeSpec := { name := "fnExactOutPut", fn := fun _ => fun
  | [d1, d2] => { results := [.lit (.bool false)], args := [d1, d2] }
  | _ => none }
def FnExactOutPutWrongFalsely : Prop := fnExactOutPutRow.holds Try.pinned (OpenSpec.ofChange fnExactOutPutWrong)

/-- 'laws.FnExactOutAck': WHATEVER THE INPUT: true; the input reads as it did. -/
def fnExactOutAckSpec : ChangeSpec := { name := "fnExactOutAck", fn := fun _ => fun
  | [d1, d2] => { results := [.lit (.bool true)], args := [d1, d2] }
  | _ => none }
def fnExactOutAckRow : OpenClaim := { program := "ytfkoipmoikhehaa", sum := "d0e4b1cc351f6db52cac5a1d7aaa82f4c703c8172d36ca1ac853f3fd9ec568b8", func := "loop.example/g00801/laws.FnExactOutAck", spec := "fnExactOutAck", apart := false }
def FnExactOutAckSaid : Prop := fnExactOutAckRow.holds Try.pinned (OpenSpec.ofChange fnExactOutAckSpec)

/-- ITS FALSE NEIGHBOUR: 'it returns false'. Refute it at one input. -/
def fnExactOutAckWrong : ChangeSpec := { name := "fnExactOutAck", fn := fun _ => fun
  | [d1, d2] => { results := [.lit (.bool false)], args := [d1, d2] }
  | _ => none }
def FnExactOutAckWrongFalsely : Prop := fnExactOutAckRow.holds Try.pinned (OpenSpec.ofChange fnExactOutAckWrong)

/-- 'laws.FnExactOutWorth': WHATEVER THE INPUT: true; the input reads as it did. -/
def fnExactOutWorthSpec : ChangeSpec := { name := "fnExactOutWorth", fn := fun _ => fun
  | [d1, d2] => { results := [.lit (.bool true)], args := [d1, d2] }
  | _ => none }
def fnExactOutWorthRow : OpenClaim := { program := "ytfkoipmoikhehaa", sum := "d0e4b1cc351f6db52cac5a1d7aaa82f4c703c8172d36ca1ac853f3fd9ec568b8", func := "loop.example/g00801/laws.FnExactOutWorth", spec := "fnExactOutWorth", unfollowed := true, recurses := true, apart := false }
def FnExactOutWorthSaid : Prop := fnExactOutWorthRow.holds Try.pinned (OpenSpec.ofChange fnExactOutWorthSpec)

/-- ITS FALSE NEIGHBOUR: 'it returns false'. Refute it at one input. -/
def fnExactOutWorthWrong : ChangeSpec := { name := "fnExactOutWorth", fn := fun _ => fun
  | [d1, d2] => { results := [.lit (.bool false)], args := [d1, d2] }
  | _ => none }
def FnExactOutWorthWrongFalsely : Prop := fnExactOutWorthRow.holds Try.pinned (OpenSpec.ofChange fnExactOutWorthWrong)

/-- 'laws.FnOnce': WHATEVER THE INPUT: true; the input reads as it did. -/
def fnOnceSpec : ChangeSpec := { name := "fnOnce", fn := fun _ => fun
  | [d] => { results := [.lit (.bool true)], args := [d] }
  | _ => none }
def fnOnceRow : OpenClaim := { program := "ytfkoipmoikhehaa", sum := "d0e4b1cc351f6db52cac5a1d7aaa82f4c703c8172d36ca1ac853f3fd9ec568b8", func := "loop.example/g00801/laws.FnOnce", spec := "fnOnce", unfollowed := true, recurses := true, apart := false }
def FnOnceSaid : Prop := fnOnceRow.holds Try.pinned (OpenSpec.ofChange fnOnceSpec)

/-- ITS FALSE NEIGHBOUR: 'it returns false'. Refute it at one input. -/
def fnOnceWrong : ChangeSpec := { name := "fnOnce", fn := fun _ => fun
  | [d] => { results := [.lit (.bool false)], args := [d] }
  | _ => none }
def FnOnceWrongFalsely : Prop := fnOnceRow.holds Try.pinned (OpenSpec.ofChange fnOnceWrong)

/-- 'laws.FnExactRightsNew': WHATEVER THE INPUT: true; the input reads as it did. -/
def fnExactRightsNewSpec : ChangeSpec := { name := "fnExactRightsNew", fn := fun _ => fun
  | [d] => { results := [.lit (.bool true)], args := [d] }
  | _ => none }
def fnExactRightsNewRow : OpenClaim := { program := "ytfkoipmoikhehaa", sum := "d0e4b1cc351f6db52cac5a1d7aaa82f4c703c8172d36ca1ac853f3fd9ec568b8", func := "loop.example/g00801/laws.FnExactRightsNew", spec := "fnExactRightsNew", apart := false }
def FnExactRightsNewSaid : Prop := fnExactRightsNewRow.holds Try.pinned (OpenSpec.ofChange fnExactRightsNewSpec)

/-- ITS FALSE NEIGHBOUR: 'it returns false'. Refute it at one input. -/
def fnExactRightsNewWrong : ChangeSpec := { name := "fnExactRightsNew", fn := fun _ => fun
  | [d] => { results := [.lit (.bool false)], args := [d] }
  | _ => none }
def FnExactRightsNewWrongFalsely : Prop := fnExactRightsNewRow.holds Try.pinned (OpenSpec.ofChange fnExactRightsNewWrong)

/-- 'laws.FnExactRightsSame': WHATEVER THE INPUT: true; the input reads as it did. -/
def fnExactRightsSameSpec : ChangeSpec := { name := "fnExactRightsSame", fn := fun _ => fun
  | [d1, d2] => { results := [.lit (.bool true)], args := [d1, d2] }
  | _ => none }
def fnExactRightsSameRow : OpenClaim := { program := "ytfkoipmoikhehaa", sum := "d0e4b1cc351f6db52cac5a1d7aaa82f4c703c8172d36ca1ac853f3fd9ec568b8", func := "loop.example/g00801/laws.FnExactRightsSame", spec := "fnExactRightsSame", apart := false }
def FnExactRightsSameSaid : Prop := fnExactRightsSameRow.holds Try.pinned (OpenSpec.ofChange fnExactRightsSameSpec)

/-- ITS FALSE NEIGHBOUR: 'it returns false'. Refute it at one input. -/
def fnExactRightsSameWrong : ChangeSpec := { name := "fnExactRightsSame", fn := fun _ => fun
  | [d1, d2] => { results := [.lit (.bool false)], args := [d1, d2] }
  | _ => none }
def FnExactRightsSameWrongFalsely : Prop := fnExactRightsSameRow.holds Try.pinned (OpenSpec.ofChange fnExactRightsSameWrong)

/- THE SECOND FORM. 'bulk': how many values and letters a reading holds, each counted each time it is reached (what is shared counts as often as it is met; a slice's spare places count too). A statement '..UptoSaid' is the law's where the arguments, and the package variables that the reading takes, are together of bulk at most 1048576: NARROWER than '..Said'. Prove '..Said' where nothing that the law and all that it calls make is longer than what came in: it says more and counts as full. Else prove '..UptoSaid'. A law counts once. -/
mutual
def uptoBulk {H : Type} : DataW H → Nat
  | .lit (.string bytes) => bytes.length + 1
  | .lit _ => 1
  | .nil => 1
  | .ptr d => uptoBulk d + 1
  | .slice elems spare => uptoBulkAll elems + uptoBulkAll spare + 1
  | .agg parts => uptoBulkAll parts + 1
  | .iface _ d => uptoBulk d + 1
  | .map entries => uptoBulkEntries entries + 1
  | .held _ => 1
def uptoBulkAll {H : Type} : List (DataW H) → Nat
  | [] => 0
  | d :: r => uptoBulk d + uptoBulkAll r
def uptoBulkEntries {H : Type} : List (Lit × DataW H) → Nat
  | [] => 0
  | x :: r => uptoBulkEntry x + uptoBulkEntries r
def uptoBulkEntry {H : Type} : Lit × DataW H → Nat
  | (.string bytes, d) => bytes.length + uptoBulk d + 1
  | (_, d) => uptoBulk d + 1
 end
def uptoSmall : (H : Type) → List (DataW H) → Bool := fun _ ds => decide (uptoBulkAll ds ≤ 1048576)
def OpenSpec.upto (s : _root_.Go.ChangeSpec) : _root_.Go.OpenSpec := { _root_.Go.OpenSpec.ofChange s with cond := some uptoSmall }

/-- 'laws.FnExactOutOk', WHERE WHAT IT READS IS OF BULK AT MOST 1048576: true; the input reads as it did. -/
def fnExactOutOkUptoRow : OpenClaim := { program := "ytfkoipmoikhehaa", sum := "d0e4b1cc351f6db52cac5a1d7aaa82f4c703c8172d36ca1ac853f3fd9ec568b8", func := "loop.example/g00801/laws.FnExactOutOk", spec := "fnExactOutOk", apart := false, narrowed := true }
def FnExactOutOkUptoSaid : Prop := fnExactOutOkUptoRow.holds Try.pinned (OpenSpec.upto fnExactOutOkSpec)

/-- 'laws.FnExactOutFirst', WHERE WHAT IT READS IS OF BULK AT MOST 1048576: true; the input reads as it did. -/
def fnExactOutFirstUptoRow : OpenClaim := { program := "ytfkoipmoikhehaa", sum := "d0e4b1cc351f6db52cac5a1d7aaa82f4c703c8172d36ca1ac853f3fd9ec568b8", func := "loop.example/g00801/laws.FnExactOutFirst", spec := "fnExactOutFirst", apart := false, narrowed := true }
def FnExactOutFirstUptoSaid : Prop := fnExactOutFirstUptoRow.holds Try.pinned (OpenSpec.upto fnExactOutFirstSpec)

/-- 'laws.FnExactOutAt', WHERE WHAT IT READS IS OF BULK AT MOST 1048576: true; the input reads as it did. -/
def fnExactOutAtUptoRow : OpenClaim := { program := "ytfkoipmoikhehaa", sum := "d0e4b1cc351f6db52cac5a1d7aaa82f4c703c8172d36ca1ac853f3fd9ec568b8", func := "loop.example/g00801/laws.FnExactOutAt", spec := "fnExactOutAt", apart := false, narrowed := true }
def FnExactOutAtUptoSaid : Prop := fnExactOutAtUptoRow.holds Try.pinned (OpenSpec.upto fnExactOutAtSpec)

/-- 'laws.FnExactOutPut', WHERE WHAT IT READS IS OF BULK AT MOST 1048576: true; the input reads as it did. -/
def fnExactOutPutUptoRow : OpenClaim := { program := "ytfkoipmoikhehaa", sum := "d0e4b1cc351f6db52cac5a1d7aaa82f4c703c8172d36ca1ac853f3fd9ec568b8", func := "loop.example/g00801/laws.FnExactOutPut", spec := "fnExactOutPut", apart := false, narrowed := true }
def FnExactOutPutUptoSaid : Prop := fnExactOutPutUptoRow.holds Try.pinned (OpenSpec.upto fnExactOutPutSpec)

/-- 'laws.FnExactOutAck', WHERE WHAT IT READS IS OF BULK AT MOST 1048576: true; the input reads as it did. -/
def fnExactOutAckUptoRow : OpenClaim := { program := "ytfkoipmoikhehaa", sum := "d0e4b1cc351f6db52cac5a1d7aaa82f4c703c8172d36ca1ac853f3fd9ec568b8", func := "loop.example/g00801/laws.FnExactOutAck", spec := "fnExactOutAck", apart := false, narrowed := true }
def FnExactOutAckUptoSaid : Prop := fnExactOutAckUptoRow.holds Try.pinned (OpenSpec.upto fnExactOutAckSpec)

/-- 'laws.FnExactOutWorth', WHERE WHAT IT READS IS OF BULK AT MOST 1048576: true; the input reads as it did. -/
def fnExactOutWorthUptoRow : OpenClaim := { program := "ytfkoipmoikhehaa", sum := "d0e4b1cc351f6db52cac5a1d7aaa82f4c703c8172d36ca1ac853f3fd9ec568b8", func := "loop.example/g00801/laws.FnExactOutWorth", spec := "fnExactOutWorth", unfollowed := true, recurses := true, apart := false, narrowed := true }
def FnExactOutWorthUptoSaid : Prop := fnExactOutWorthUptoRow.holds Try.pinned (OpenSpec.upto fnExactOutWorthSpec)

/-- 'laws.FnOnce', WHERE WHAT IT READS IS OF BULK AT MOST 1048576: true; the input reads as it did. -/
def fnOnceUptoRow : OpenClaim := { program := "ytfkoipmoikhehaa", sum := "d0e4b1cc351f6db52cac5a1d7aaa82f4c703c8172d36ca1ac853f3fd9ec568b8", func := "loop.example/g00801/laws.FnOnce", spec := "fnOnce", unfollowed := true, recurses := true, apart := false, narrowed := true }
def FnOnceUptoSaid : Prop := fnOnceUptoRow.holds Try.pinned (OpenSpec.upto fnOnceSpec)

/-- 'laws.FnExactRightsNew', WHERE WHAT IT READS IS OF BULK AT MOST 1048576: true; the input reads as it did. -/
def fnExactRightsNewUptoRow : OpenClaim := { program := "ytfkoipmoikhehaa", sum := "d0e4b1cc351f6db52cac5a1d7aaa82f4c703c8172d36ca1ac853f3fd9ec568b8", func := "loop.example/g00801/laws.FnExactRightsNew", spec := "fnExactRightsNew", apart := false, narrowed := true }
def FnExactRightsNewUptoSaid : Prop := fnExactRightsNewUptoRow.holds Try.pinned (OpenSpec.upto fnExactRightsNewSpec)

/-- 'laws.FnExactRightsSame', WHERE WHAT IT READS IS OF BULK AT MOST 1048576: true; the input reads as it did. -/
def fnExactRightsSameUptoRow : OpenClaim := { program := "ytfkoipmoikhehaa", sum := "d0e4b1cc351f6db52cac5a1d7aaa82f4c703c8172d36ca1ac853f3fd9ec568b8", func := "loop.example/g00801/laws.FnExactRightsSame", spec := "fnExactRightsSame", apart := false, narrowed := true }
def FnExactRightsSameUptoSaid : Prop := fnExactRightsSameUptoRow.holds Try.pinned (OpenSpec.upto fnExactRightsSameSpec)

end Rows
end Go.Proofs.Ytfkoipmoikhehaa
