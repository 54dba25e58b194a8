/-
  No cell of these rows narrows 'for every input' (looked for: loops, veiled, ifaces, maps, wideKeys, modest, calm, conditions, laid).
  DERIVED. THE GIVEN ROWS OF THIS SEAT. 9 by the template 'for every input the law returns true; each argument reads behind the call as it read before'; 0 by the template 'total and deterministic' (their statements: YtnkpjpfmjkiidaaTotals.lean).
  GIVEN WITH THE SEED: the statements are not yours to turn. If you find one false, say at which input.
  Laid BY PROGRAM, IN A SANDBOX (cutbox-rows.mjs): the forced cells as the released guide's own fill.sh prints them over the translation cc369e38d4816303… (all of the seat's roots in one cut). By AI agents, Wed Nov 11 2026. No macro, syntax, notation, axiom, sorry.
-/
import Derived.Test.YtnkpjpfmjkiidaaChecked
import GoSem.Claim
import GoSem.ClaimJoined
import GoSem.ClaimMapViews
import Derived.JoinedTies
import Derived.KernelRfl
namespace Go.Proofs.Ytnkpjpfmjkiidaa
/- THE CELL 'sum', in the pinned program and in every row, IS THE sha256 OF THE DUMP (.gsa) THAT YtnkpjpfmjkiidaaProg.lean LOADS. Nothing in Lean hashes anything: it is a label: what it is worth is what the hold of that sum in a sandbox is worth. -/
noncomputable def Try.pinned : Pinned := { name := "ytnkpjpfmjkiidaa", sum := "cc369e38d4816303709148dca291624fbb7df3c895d9c880fa3957e002d28fdc", checked := Try.checked }
namespace Rows
def none {H : Type} : Left H := { results := [], args := [] }

/-- 'laws.FnExactMoveBack': WHATEVER THE INPUT: true; the input reads as it did. -/
def fnExactMoveBackSpec : ChangeSpec := { name := "fnExactMoveBack", fn := fun _ => fun
  | [d1, d2] => { results := [.lit (.bool true)], args := [d1, d2] }
  | _ => none }
def fnExactMoveBackRow : OpenClaim := { program := "ytnkpjpfmjkiidaa", sum := "cc369e38d4816303709148dca291624fbb7df3c895d9c880fa3957e002d28fdc", func := "loop.example/g00722/laws.FnExactMoveBack", spec := "fnExactMoveBack", unfollowed := true, recurses := true, apart := false }
def FnExactMoveBackSaid : Prop := fnExactMoveBackRow.holds Try.pinned (OpenSpec.ofChange fnExactMoveBackSpec)

/-- ITS FALSE NEIGHBOUR: 'it returns false'. Refute it at one input. -/
def fnExactMoveBackWrong : ChangeSpec := { name := "fnExactMoveBack", fn := fun _ => fun
  | [d1, d2] => { results := [.lit (.bool false)], args := [d1, d2] }
  | _ => none }
def FnExactMoveBackWrongFalsely : Prop := fnExactMoveBackRow.holds Try.pinned (OpenSpec.ofChange fnExactMoveBackWrong)

/-- 'laws.FnExactLineOk': WHATEVER THE INPUT: true; the input reads as it did. -/
def fnExactLineOkSpec : ChangeSpec := { name := "fnExactLineOk", fn := fun _ => fun
  | [d] => { results := [.lit (.bool true)], args := [d] }
  | _ => none }
def fnExactLineOkRow : OpenClaim := { program := "ytnkpjpfmjkiidaa", sum := "cc369e38d4816303709148dca291624fbb7df3c895d9c880fa3957e002d28fdc", func := "loop.example/g00722/laws.FnExactLineOk", spec := "fnExactLineOk", unfollowed := true, recurses := true, apart := false }
def FnExactLineOkSaid : Prop := fnExactLineOkRow.holds Try.pinned (OpenSpec.ofChange fnExactLineOkSpec)

/-- ITS FALSE NEIGHBOUR: 'it returns false'. Refute it at one input. -/
def fnExactLineOkWrong : ChangeSpec := { name := "fnExactLineOk", fn := fun _ => fun
  | [d] => { results := [.lit (.bool false)], args := [d] }
  | _ => none }
def FnExactLineOkWrongFalsely : Prop := fnExactLineOkRow.holds Try.pinned (OpenSpec.ofChange fnExactLineOkWrong)

/-- 'laws.FnExactNextExpiry': WHATEVER THE INPUT: true; the input reads as it did. -/
def fnExactNextExpirySpec : ChangeSpec := { name := "fnExactNextExpiry", fn := fun _ => fun
  | [d] => { results := [.lit (.bool true)], args := [d] }
  | _ => none }
def fnExactNextExpiryRow : OpenClaim := { program := "ytnkpjpfmjkiidaa", sum := "cc369e38d4816303709148dca291624fbb7df3c895d9c880fa3957e002d28fdc", func := "loop.example/g00722/laws.FnExactNextExpiry", spec := "fnExactNextExpiry", unfollowed := true, recurses := true, apart := false }
def FnExactNextExpirySaid : Prop := fnExactNextExpiryRow.holds Try.pinned (OpenSpec.ofChange fnExactNextExpirySpec)

/-- ITS FALSE NEIGHBOUR: 'it returns false'. Refute it at one input. -/
def fnExactNextExpiryWrong : ChangeSpec := { name := "fnExactNextExpiry", fn := fun _ => fun
  | [d] => { results := [.lit (.bool false)], args := [d] }
  | _ => none }
def FnExactNextExpiryWrongFalsely : Prop := fnExactNextExpiryRow.holds Try.pinned (OpenSpec.ofChange fnExactNextExpiryWrong)

/-- 'laws.FnExactLineList': WHATEVER THE INPUT: true; the input reads as it did. -/
def fnExactLineListSpec : ChangeSpec := { name := "fnExactLineList", fn := fun _ => fun
  | [d] => { results := [.lit (.bool true)], args := [d] }
  | _ => none }
def fnExactLineListRow : OpenClaim := { program := "ytnkpjpfmjkiidaa", sum := "cc369e38d4816303709148dca291624fbb7df3c895d9c880fa3957e002d28fdc", func := "loop.example/g00722/laws.FnExactLineList", spec := "fnExactLineList", unfollowed := true, recurses := true, apart := false }
def FnExactLineListSaid : Prop := fnExactLineListRow.holds Try.pinned (OpenSpec.ofChange fnExactLineListSpec)

/-- ITS FALSE NEIGHBOUR: 'it returns false'. Refute it at one input. -/
def fnExactLineListWrong : ChangeSpec := { name := "fnExactLineList", fn := fun _ => fun
  | [d] => { results := [.lit (.bool false)], args := [d] }
  | _ => none }
def FnExactLineListWrongFalsely : Prop := fnExactLineListRow.holds Try.pinned (OpenSpec.ofChange fnExactLineListWrong)

/-- 'laws.FnExactLeave': WHATEVER THE INPUT: true; the input reads as it did. -/
def fnExactLeaveSpec : ChangeSpec := { name := "fnExactLeave", fn := fun _ => fun
  | [d1, d2] => { results := [.lit (.bool true)], args := [d1, d2] }
  | _ => none }
def fnExactLeaveRow : OpenClaim := { program := "ytnkpjpfmjkiidaa", sum := "cc369e38d4816303709148dca291624fbb7df3c895d9c880fa3957e002d28fdc", func := "loop.example/g00722/laws.FnExactLeave", spec := "fnExactLeave", unfollowed := true, recurses := true, apart := false }
def FnExactLeaveSaid : Prop := fnExactLeaveRow.holds Try.pinned (OpenSpec.ofChange fnExactLeaveSpec)

/-- ITS FALSE NEIGHBOUR: 'it returns false'. Refute it at one input. -/
def fnExactLeaveWrong : ChangeSpec := { name := "fnExactLeave", fn := fun _ => fun
  | [d1, d2] => { results := [.lit (.bool false)], args := [d1, d2] }
  | _ => none }
def FnExactLeaveWrongFalsely : Prop := fnExactLeaveRow.holds Try.pinned (OpenSpec.ofChange fnExactLeaveWrong)

/-- 'laws.FnExactEnqueue': WHATEVER THE INPUT: true; the input reads as it did. -/
def fnExactEnqueueSpec : ChangeSpec := { name := "fnExactEnqueue", fn := fun _ => fun
  | [d1, d2, d3] => { results := [.lit (.bool true)], args := [d1, d2, d3] }
  | _ => none }
def fnExactEnqueueRow : OpenClaim := { program := "ytnkpjpfmjkiidaa", sum := "cc369e38d4816303709148dca291624fbb7df3c895d9c880fa3957e002d28fdc", func := "loop.example/g00722/laws.FnExactEnqueue", spec := "fnExactEnqueue", unfollowed := true, recurses := true, apart := false }
def FnExactEnqueueSaid : Prop := fnExactEnqueueRow.holds Try.pinned (OpenSpec.ofChange fnExactEnqueueSpec)

/-- ITS FALSE NEIGHBOUR: 'it returns false'. Refute it at one input. -/
def fnExactEnqueueWrong : ChangeSpec := { name := "fnExactEnqueue", fn := fun _ => fun
  | [d1, d2, d3] => { results := [.lit (.bool false)], args := [d1, d2, d3] }
  | _ => none }
def FnExactEnqueueWrongFalsely : Prop := fnExactEnqueueRow.holds Try.pinned (OpenSpec.ofChange fnExactEnqueueWrong)

/-- 'laws.FnExactServeFirst': WHATEVER THE INPUT: true; the input reads as it did. -/
def fnExactServeFirstSpec : ChangeSpec := { name := "fnExactServeFirst", fn := fun _ => fun
  | [d] => { results := [.lit (.bool true)], args := [d] }
  | _ => none }
def fnExactServeFirstRow : OpenClaim := { program := "ytnkpjpfmjkiidaa", sum := "cc369e38d4816303709148dca291624fbb7df3c895d9c880fa3957e002d28fdc", func := "loop.example/g00722/laws.FnExactServeFirst", spec := "fnExactServeFirst", unfollowed := true, recurses := true, apart := false }
def FnExactServeFirstSaid : Prop := fnExactServeFirstRow.holds Try.pinned (OpenSpec.ofChange fnExactServeFirstSpec)

/-- ITS FALSE NEIGHBOUR: 'it returns false'. Refute it at one input. -/
def fnExactServeFirstWrong : ChangeSpec := { name := "fnExactServeFirst", fn := fun _ => fun
  | [d] => { results := [.lit (.bool false)], args := [d] }
  | _ => none }
def FnExactServeFirstWrongFalsely : Prop := fnExactServeFirstRow.holds Try.pinned (OpenSpec.ofChange fnExactServeFirstWrong)

/-- 'laws.FnExactExpire': WHATEVER THE INPUT: true; the input reads as it did. -/
def fnExactExpireSpec : ChangeSpec := { name := "fnExactExpire", fn := fun _ => fun
  | [d1, d2] => { results := [.lit (.bool true)], args := [d1, d2] }
  | _ => none }
def fnExactExpireRow : OpenClaim := { program := "ytnkpjpfmjkiidaa", sum := "cc369e38d4816303709148dca291624fbb7df3c895d9c880fa3957e002d28fdc", func := "loop.example/g00722/laws.FnExactExpire", spec := "fnExactExpire", unfollowed := true, recurses := true, apart := false }
def FnExactExpireSaid : Prop := fnExactExpireRow.holds Try.pinned (OpenSpec.ofChange fnExactExpireSpec)

/-- ITS FALSE NEIGHBOUR: 'it returns false'. Refute it at one input. -/
def fnExactExpireWrong : ChangeSpec := { name := "fnExactExpire", fn := fun _ => fun
  | [d1, d2] => { results := [.lit (.bool false)], args := [d1, d2] }
  | _ => none }
def FnExactExpireWrongFalsely : Prop := fnExactExpireRow.holds Try.pinned (OpenSpec.ofChange fnExactExpireWrong)

/-- 'laws.FnLines': WHATEVER THE INPUT: true; the input reads as it did. -/
def fnLinesSpec : ChangeSpec := { name := "fnLines", fn := fun _ => fun
  | [d] => { results := [.lit (.bool true)], args := [d] }
  | _ => none }
def fnLinesRow : OpenClaim := { program := "ytnkpjpfmjkiidaa", sum := "cc369e38d4816303709148dca291624fbb7df3c895d9c880fa3957e002d28fdc", func := "loop.example/g00722/laws.FnLines", spec := "fnLines", unfollowed := true, recurses := true, apart := false }
def FnLinesSaid : Prop := fnLinesRow.holds Try.pinned (OpenSpec.ofChange fnLinesSpec)

/-- ITS FALSE NEIGHBOUR: 'it returns false'. Refute it at one input. -/
def fnLinesWrong : ChangeSpec := { name := "fnLines", fn := fun _ => fun
  | [d] => { results := [.lit (.bool false)], args := [d] }
  | _ => none }
def FnLinesWrongFalsely : Prop := fnLinesRow.holds Try.pinned (OpenSpec.ofChange fnLinesWrong)

/- THE SECOND FORM. 'bulk': how many values and letters a reading holds, each counted each time it is reached (what is shared counts as often as it is met; a slice's spare places count too). A statement '..UptoSaid' is the law's where the arguments, and the package variables that the reading takes, are together of bulk at most 1048576: NARROWER than '..Said'. Prove '..Said' where nothing that the law and all that it calls make is longer than what came in: it says more and counts as full. Else prove '..UptoSaid'. A law counts once. -/
mutual
def uptoBulk {H : Type} : DataW H → Nat
  | .lit (.string bytes) => bytes.length + 1
  | .lit _ => 1
  | .nil => 1
  | .ptr d => uptoBulk d + 1
  | .slice elems spare => uptoBulkAll elems + uptoBulkAll spare + 1
  | .agg parts => uptoBulkAll parts + 1
  | .iface _ d => uptoBulk d + 1
  | .map entries => uptoBulkEntries entries + 1
  | .held _ => 1
def uptoBulkAll {H : Type} : List (DataW H) → Nat
  | [] => 0
  | d :: r => uptoBulk d + uptoBulkAll r
def uptoBulkEntries {H : Type} : List (Lit × DataW H) → Nat
  | [] => 0
  | x :: r => uptoBulkEntry x + uptoBulkEntries r
def uptoBulkEntry {H : Type} : Lit × DataW H → Nat
  | (.string bytes, d) => bytes.length + uptoBulk d + 1
  | (_, d) => uptoBulk d + 1
 end
def uptoSmall : (H : Type) → List (DataW H) → Bool := fun _ ds => decide (uptoBulkAll ds ≤ 1048576)
def OpenSpec.upto (s : _root_.Go.ChangeSpec) : _root_.Go.OpenSpec := { _root_.Go.OpenSpec.ofChange s with cond := some uptoSmall }

/-- 'laws.FnExactMoveBack', WHERE WHAT IT READS IS OF BULK AT MOST 1048576: true; the input reads as it did. -/
def fnExactMoveBackUptoRow : OpenClaim := { program := "ytnkpjpfmjkiidaa", sum := "cc369e38d4816303709148dca291624fbb7df3c895d9c880fa3957e002d28fdc", func := "loop.example/g00722/laws.FnExactMoveBack", spec := "fnExactMoveBack", unfollowed := true, recurses := true, apart := false, narrowed := true }
def FnExactMoveBackUptoSaid : Prop := fnExactMoveBackUptoRow.holds Try.pinned (OpenSpec.upto fnExactMoveBackSpec)

/-- 'laws.FnExactLineOk', WHERE WHAT IT READS IS OF BULK AT MOST 1048576: true; the input reads as it did. -/
def fnExactLineOkUptoRow : OpenClaim := { program := "ytnkpjpfmjkiidaa", sum := "cc369e38d4816303709148dca291624fbb7df3c895d9c880fa3957e002d28fdc", func := "loop.example/g00722/laws.FnExactLineOk", spec := "fnExactLineOk", unfollowed := true, recurses := true, apart := false, narrowed := true }
def FnExactLineOkUptoSaid : Prop := fnExactLineOkUptoRow.holds Try.pinned (OpenSpec.upto fnExactLineOkSpec)

/-- 'laws.FnExactNextExpiry', WHERE WHAT IT READS IS OF BULK AT MOST 1048576: true; the input reads as it did. -/
def fnExactNextExpiryUptoRow : OpenClaim := { program := "ytnkpjpfmjkiidaa", sum := "cc369e38d4816303709148dca291624fbb7df3c895d9c880fa3957e002d28fdc", func := "loop.example/g00722/laws.FnExactNextExpiry", spec := "fnExactNextExpiry", unfollowed := true, recurses := true, apart := false, narrowed := true }
def FnExactNextExpiryUptoSaid : Prop := fnExactNextExpiryUptoRow.holds Try.pinned (OpenSpec.upto fnExactNextExpirySpec)

/-- 'laws.FnExactLineList', WHERE WHAT IT READS IS OF BULK AT MOST 1048576: true; the input reads as it did. -/
def fnExactLineListUptoRow : OpenClaim := { program := "ytnkpjpfmjkiidaa", sum := "cc369e38d4816303709148dca291624fbb7df3c895d9c880fa3957e002d28fdc", func := "loop.example/g00722/laws.FnExactLineList", spec := "fnExactLineList", unfollowed := true, recurses := true, apart := false, narrowed := true }
def FnExactLineListUptoSaid : Prop := fnExactLineListUptoRow.holds Try.pinned (OpenSpec.upto fnExactLineListSpec)

/-- 'laws.FnExactLeave', WHERE WHAT IT READS IS OF BULK AT MOST 1048576: true; the input reads as it did. -/
def fnExactLeaveUptoRow : OpenClaim := { program := "ytnkpjpfmjkiidaa", sum := "cc369e38d4816303709148dca291624fbb7df3c895d9c880fa3957e002d28fdc", func := "loop.example/g00722/laws.FnExactLeave", spec := "fnExactLeave", unfollowed := true, recurses := true, apart := false, narrowed := true }
def FnExactLeaveUptoSaid : Prop := fnExactLeaveUptoRow.holds Try.pinned (OpenSpec.upto fnExactLeaveSpec)

/-- 'laws.FnExactEnqueue', WHERE WHAT IT READS IS OF BULK AT MOST 1048576: true; the input reads as it did. -/
def fnExactEnqueueUptoRow : OpenClaim := { program := "ytnkpjpfmjkiidaa", sum := "cc369e38d4816303709148dca291624fbb7df3c895d9c880fa3957e002d28fdc", func := "loop.example/g00722/laws.FnExactEnqueue", spec := "fnExactEnqueue", unfollowed := true, recurses := true, apart := false, narrowed := true }
def FnExactEnqueueUptoSaid : Prop := fnExactEnqueueUptoRow.holds Try.pinned (OpenSpec.upto fnExactEnqueueSpec)

/-- 'laws.FnExactServeFirst', WHERE WHAT IT READS IS OF BULK AT MOST 1048576: true; the input reads as it did. -/
def fnExactServeFirstUptoRow : OpenClaim := { program := "ytnkpjpfmjkiidaa", sum := "cc369e38d4816303709148dca291624fbb7df3c895d9c880fa3957e002d28fdc", func := "loop.example/g00722/laws.FnExactServeFirst", spec := "fnExactServeFirst", unfollowed := true, recurses := true, apart := false, narrowed := true }
def FnExactServeFirstUptoSaid : Prop := fnExactServeFirstUptoRow.holds Try.pinned (OpenSpec.upto fnExactServeFirstSpec)

/-- 'laws.FnExactExpire', WHERE WHAT IT READS IS OF BULK AT MOST 1048576: true; the input reads as it did. -/
def fnExactExpireUptoRow : OpenClaim := { program := "ytnkpjpfmjkiidaa", sum := "cc369e38d4816303709148dca291624fbb7df3c895d9c880fa3957e002d28fdc", func := "loop.example/g00722/laws.FnExactExpire", spec := "fnExactExpire", unfollowed := true, recurses := true, apart := false, narrowed := true }
def FnExactExpireUptoSaid : Prop := fnExactExpireUptoRow.holds Try.pinned (OpenSpec.upto fnExactExpireSpec)

/-- 'laws.FnLines', WHERE WHAT IT READS IS OF BULK AT MOST 1048576: true; the input reads as it did. -/
def fnLinesUptoRow : OpenClaim := { program := "ytnkpjpfmjkiidaa", sum := "cc369e38d4816303709148dca291624fbb7df3c895d9c880fa3957e002d28fdc", func := "loop.example/g00722/laws.FnLines", spec := "fnLines", unfollowed := true, recurses := true, apart := false, narrowed := true }
def FnLinesUptoSaid : Prop := fnLinesUptoRow.holds Try.pinned (OpenSpec.upto fnLinesSpec)

end Rows
end Go.Proofs.Ytnkpjpfmjkiidaa
