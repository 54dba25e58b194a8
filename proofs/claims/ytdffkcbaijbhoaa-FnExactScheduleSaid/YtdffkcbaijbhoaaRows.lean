/-
  No cell of these rows narrows 'for every input' (looked for: loops, veiled, ifaces, maps, wideKeys, modest, calm, conditions, laid).
  DERIVED. THE GIVEN ROWS OF THIS SEAT. 6 by the template 'for every input the law returns true; each argument reads behind the call as it read before'; 0 by the template 'total and deterministic' (their statements: YtdffkcbaijbhoaaTotals.lean).
  GIVEN WITH THE SEED: the statements are not yours to turn. If you find one false, say at which input.
  Laid BY PROGRAM, IN A SANDBOX (cutbox-rows.mjs): the forced cells as the released guide's own fill.sh prints them over the translation 0c30d24c9a572e68… (all of the seat's roots in one cut). By AI agents, Wed Nov 11 2026. No macro, syntax, notation, axiom, sorry.
-/
import Derived.Test.YtdffkcbaijbhoaaChecked
import GoSem.Claim
import GoSem.ClaimJoined
import GoSem.ClaimMapViews
import Derived.JoinedTies
import Derived.KernelRfl
namespace Go.Proofs.Ytdffkcbaijbhoaa
/- THE CELL 'sum', in the pinned program and in every row, IS THE sha256 OF THE DUMP (.gsa) THAT YtdffkcbaijbhoaaProg.lean LOADS. Nothing in Lean hashes anything: it is a label: what it is worth is what the hold of that sum in a sandbox is worth. -/
noncomputable def Try.pinned : Pinned := { name := "ytdffkcbaijbhoaa", sum := "0c30d24c9a572e687930604a6f64d08a0f44854758f011fc2f33ef0ae619f241", checked := Try.checked }
namespace Rows
def none {H : Type} : Left H := { results := [], args := [] }

/-- 'laws.FnExactCancelDue': WHATEVER THE INPUT: true; the input reads as it did. -/
def fnExactCancelDueSpec : ChangeSpec := { name := "fnExactCancelDue", fn := fun _ => fun
  | [d1, d2] => { results := [.lit (.bool true)], args := [d1, d2] }
  | _ => none }
def fnExactCancelDueRow : OpenClaim := { program := "ytdffkcbaijbhoaa", sum := "0c30d24c9a572e687930604a6f64d08a0f44854758f011fc2f33ef0ae619f241", func := "loop.example/g00722/laws.FnExactCancelDue", spec := "fnExactCancelDue", unfollowed := true, recurses := true, apart := false }
def FnExactCancelDueSaid : Prop := fnExactCancelDueRow.holds Try.pinned (OpenSpec.ofChange fnExactCancelDueSpec)

/-- ITS FALSE NEIGHBOUR: 'it returns false'. Refute it at one input. -/
def fnExactCancelDueWrong : ChangeSpec := { name := "fnExactCancelDue", fn := fun _ => fun
  | [d1, d2] => { results := [.lit (.bool false)], args := [d1, d2] }
  | _ => none }
def FnExactCancelDueWrongFalsely : Prop := fnExactCancelDueRow.holds Try.pinned (OpenSpec.ofChange fnExactCancelDueWrong)

/-- 'laws.FnExactSchedule': WHATEVER THE INPUT: true; the input reads as it did. -/
def fnExactScheduleSpec : ChangeSpec := { name := "fnExactSchedule", fn := fun _ => fun
  | [d1, d2, d3] => { results := [.lit (.bool true)], args := [d1, d2, d3] }
  | _ => none }
def fnExactScheduleRow : OpenClaim := { program := "ytdffkcbaijbhoaa", sum := "0c30d24c9a572e687930604a6f64d08a0f44854758f011fc2f33ef0ae619f241", func := "loop.example/g00722/laws.FnExactSchedule", spec := "fnExactSchedule", unfollowed := true, recurses := true, apart := false }
def FnExactScheduleSaid : Prop := fnExactScheduleRow.holds Try.pinned (OpenSpec.ofChange fnExactScheduleSpec)

/-- ITS FALSE NEIGHBOUR: 'it returns false'. Refute it at one input. -/
def fnExactScheduleWrong : ChangeSpec := { name := "fnExactSchedule", fn := fun _ => fun
  | [d1, d2, d3] => { results := [.lit (.bool false)], args := [d1, d2, d3] }
  | _ => none }
def FnExactScheduleWrongFalsely : Prop := fnExactScheduleRow.holds Try.pinned (OpenSpec.ofChange fnExactScheduleWrong)

/-- 'laws.FnExactPopDue': WHATEVER THE INPUT: true; the input reads as it did. -/
def fnExactPopDueSpec : ChangeSpec := { name := "fnExactPopDue", fn := fun _ => fun
  | [d1, d2] => { results := [.lit (.bool true)], args := [d1, d2] }
  | _ => none }
def fnExactPopDueRow : OpenClaim := { program := "ytdffkcbaijbhoaa", sum := "0c30d24c9a572e687930604a6f64d08a0f44854758f011fc2f33ef0ae619f241", func := "loop.example/g00722/laws.FnExactPopDue", spec := "fnExactPopDue", apart := false }
def FnExactPopDueSaid : Prop := fnExactPopDueRow.holds Try.pinned (OpenSpec.ofChange fnExactPopDueSpec)

/-- ITS FALSE NEIGHBOUR: 'it returns false'. Refute it at one input. -/
def fnExactPopDueWrong : ChangeSpec := { name := "fnExactPopDue", fn := fun _ => fun
  | [d1, d2] => { results := [.lit (.bool false)], args := [d1, d2] }
  | _ => none }
def FnExactPopDueWrongFalsely : Prop := fnExactPopDueRow.holds Try.pinned (OpenSpec.ofChange fnExactPopDueWrong)

/-- 'laws.FnExactPlayHeap': WHATEVER THE INPUT: true; the input reads as it did. -/
def fnExactPlayHeapSpec : ChangeSpec := { name := "fnExactPlayHeap", fn := fun _ => fun
  | [d] => { results := [.lit (.bool true)], args := [d] }
  | _ => none }
def fnExactPlayHeapRow : OpenClaim := { program := "ytdffkcbaijbhoaa", sum := "0c30d24c9a572e687930604a6f64d08a0f44854758f011fc2f33ef0ae619f241", func := "loop.example/g00722/laws.FnExactPlayHeap", spec := "fnExactPlayHeap", unfollowed := true, recurses := true, apart := false }
def FnExactPlayHeapSaid : Prop := fnExactPlayHeapRow.holds Try.pinned (OpenSpec.ofChange fnExactPlayHeapSpec)

/-- ITS FALSE NEIGHBOUR: 'it returns false'. Refute it at one input. -/
def fnExactPlayHeapWrong : ChangeSpec := { name := "fnExactPlayHeap", fn := fun _ => fun
  | [d] => { results := [.lit (.bool false)], args := [d] }
  | _ => none }
def FnExactPlayHeapWrongFalsely : Prop := fnExactPlayHeapRow.holds Try.pinned (OpenSpec.ofChange fnExactPlayHeapWrong)

/-- 'laws.FnExactSortedIds': WHATEVER THE INPUT: true; the input reads as it did. -/
def fnExactSortedIdsSpec : ChangeSpec := { name := "fnExactSortedIds", fn := fun _ => fun
  | [d] => { results := [.lit (.bool true)], args := [d] }
  | _ => none }
def fnExactSortedIdsRow : OpenClaim := { program := "ytdffkcbaijbhoaa", sum := "0c30d24c9a572e687930604a6f64d08a0f44854758f011fc2f33ef0ae619f241", func := "loop.example/g00722/laws.FnExactSortedIds", spec := "fnExactSortedIds", unfollowed := true, recurses := true, apart := false }
def FnExactSortedIdsSaid : Prop := fnExactSortedIdsRow.holds Try.pinned (OpenSpec.ofChange fnExactSortedIdsSpec)

/-- ITS FALSE NEIGHBOUR: 'it returns false'. Refute it at one input. -/
def fnExactSortedIdsWrong : ChangeSpec := { name := "fnExactSortedIds", fn := fun _ => fun
  | [d] => { results := [.lit (.bool false)], args := [d] }
  | _ => none }
def FnExactSortedIdsWrongFalsely : Prop := fnExactSortedIdsRow.holds Try.pinned (OpenSpec.ofChange fnExactSortedIdsWrong)

/-- 'laws.FnHeaps': WHATEVER THE INPUT: true; the input reads as it did. -/
def fnHeapsSpec : ChangeSpec := { name := "fnHeaps", fn := fun _ => fun
  | [d] => { results := [.lit (.bool true)], args := [d] }
  | _ => none }
def fnHeapsRow : OpenClaim := { program := "ytdffkcbaijbhoaa", sum := "0c30d24c9a572e687930604a6f64d08a0f44854758f011fc2f33ef0ae619f241", func := "loop.example/g00722/laws.FnHeaps", spec := "fnHeaps", unfollowed := true, recurses := true, apart := false }
def FnHeapsSaid : Prop := fnHeapsRow.holds Try.pinned (OpenSpec.ofChange fnHeapsSpec)

/-- ITS FALSE NEIGHBOUR: 'it returns false'. Refute it at one input. -/
def fnHeapsWrong : ChangeSpec := { name := "fnHeaps", fn := fun _ => fun
  | [d] => { results := [.lit (.bool false)], args := [d] }
  | _ => none }
def FnHeapsWrongFalsely : Prop := fnHeapsRow.holds Try.pinned (OpenSpec.ofChange fnHeapsWrong)

/- THE SECOND FORM. 'bulk': how many values and letters a reading holds, each counted each time it is reached (what is shared counts as often as it is met; a slice's spare places count too). A statement '..UptoSaid' is the law's where the arguments, and the package variables that the reading takes, are together of bulk at most 1048576: NARROWER than '..Said'. Prove '..Said' where nothing that the law and all that it calls make is longer than what came in: it says more and counts as full. Else prove '..UptoSaid'. A law counts once. -/
mutual
def uptoBulk {H : Type} : DataW H → Nat
  | .lit (.string bytes) => bytes.length + 1
  | .lit _ => 1
  | .nil => 1
  | .ptr d => uptoBulk d + 1
  | .slice elems spare => uptoBulkAll elems + uptoBulkAll spare + 1
  | .agg parts => uptoBulkAll parts + 1
  | .iface _ d => uptoBulk d + 1
  | .map entries => uptoBulkEntries entries + 1
  | .held _ => 1
def uptoBulkAll {H : Type} : List (DataW H) → Nat
  | [] => 0
  | d :: r => uptoBulk d + uptoBulkAll r
def uptoBulkEntries {H : Type} : List (Lit × DataW H) → Nat
  | [] => 0
  | x :: r => uptoBulkEntry x + uptoBulkEntries r
def uptoBulkEntry {H : Type} : Lit × DataW H → Nat
  | (.string bytes, d) => bytes.length + uptoBulk d + 1
  | (_, d) => uptoBulk d + 1
 end
def uptoSmall : (H : Type) → List (DataW H) → Bool := fun _ ds => decide (uptoBulkAll ds ≤ 1048576)
def OpenSpec.upto (s : _root_.Go.ChangeSpec) : _root_.Go.OpenSpec := { _root_.Go.OpenSpec.ofChange s with cond := some uptoSmall }

/-- 'laws.FnExactCancelDue', WHERE WHAT IT READS IS OF BULK AT MOST 1048576: true; the input reads as it did. -/
def fnExactCancelDueUptoRow : OpenClaim := { program := "ytdffkcbaijbhoaa", sum := "0c30d24c9a572e687930604a6f64d08a0f44854758f011fc2f33ef0ae619f241", func := "loop.example/g00722/laws.FnExactCancelDue", spec := "fnExactCancelDue", unfollowed := true, recurses := true, apart := false, narrowed := true }
def FnExactCancelDueUptoSaid : Prop := fnExactCancelDueUptoRow.holds Try.pinned (OpenSpec.upto fnExactCancelDueSpec)

/-- 'laws.FnExactSchedule', WHERE WHAT IT READS IS OF BULK AT MOST 1048576: true; the input reads as it did. -/
def fnExactScheduleUptoRow : OpenClaim := { program := "ytdffkcbaijbhoaa", sum := "0c30d24c9a572e687930604a6f64d08a0f44854758f011fc2f33ef0ae619f241", func := "loop.example/g00722/laws.FnExactSchedule", spec := "fnExactSchedule", unfollowed := true, recurses := true, apart := false, narrowed := true }
def FnExactScheduleUptoSaid : Prop := fnExactScheduleUptoRow.holds Try.pinned (OpenSpec.upto fnExactScheduleSpec)

/-- 'laws.FnExactPopDue', WHERE WHAT IT READS IS OF BULK AT MOST 1048576: true; the input reads as it did. -/
def fnExactPopDueUptoRow : OpenClaim := { program := "ytdffkcbaijbhoaa", sum := "0c30d24c9a572e687930604a6f64d08a0f44854758f011fc2f33ef0ae619f241", func := "loop.example/g00722/laws.FnExactPopDue", spec := "fnExactPopDue", apart := false, narrowed := true }
def FnExactPopDueUptoSaid : Prop := fnExactPopDueUptoRow.holds Try.pinned (OpenSpec.upto fnExactPopDueSpec)

/-- 'laws.FnExactPlayHeap', WHERE WHAT IT READS IS OF BULK AT MOST 1048576: true; the input reads as it did. -/
def fnExactPlayHeapUptoRow : OpenClaim := { program := "ytdffkcbaijbhoaa", sum := "0c30d24c9a572e687930604a6f64d08a0f44854758f011fc2f33ef0ae619f241", func := "loop.example/g00722/laws.FnExactPlayHeap", spec := "fnExactPlayHeap", unfollowed := true, recurses := true, apart := false, narrowed := true }
def FnExactPlayHeapUptoSaid : Prop := fnExactPlayHeapUptoRow.holds Try.pinned (OpenSpec.upto fnExactPlayHeapSpec)

/-- 'laws.FnExactSortedIds', WHERE WHAT IT READS IS OF BULK AT MOST 1048576: true; the input reads as it did. -/
def fnExactSortedIdsUptoRow : OpenClaim := { program := "ytdffkcbaijbhoaa", sum := "0c30d24c9a572e687930604a6f64d08a0f44854758f011fc2f33ef0ae619f241", func := "loop.example/g00722/laws.FnExactSortedIds", spec := "fnExactSortedIds", unfollowed := true, recurses := true, apart := false, narrowed := true }
def FnExactSortedIdsUptoSaid : Prop := fnExactSortedIdsUptoRow.holds Try.pinned (OpenSpec.upto fnExactSortedIdsSpec)

/-- 'laws.FnHeaps', WHERE WHAT IT READS IS OF BULK AT MOST 1048576: true; the input reads as it did. -/
def fnHeapsUptoRow : OpenClaim := { program := "ytdffkcbaijbhoaa", sum := "0c30d24c9a572e687930604a6f64d08a0f44854758f011fc2f33ef0ae619f241", func := "loop.example/g00722/laws.FnHeaps", spec := "fnHeaps", unfollowed := true, recurses := true, apart := false, narrowed := true }
def FnHeapsUptoSaid : Prop := fnHeapsUptoRow.holds Try.pinned (OpenSpec.upto fnHeapsSpec)

end Rows
end Go.Proofs.Ytdffkcbaijbhoaa
