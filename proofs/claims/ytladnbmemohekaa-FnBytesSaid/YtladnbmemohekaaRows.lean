/-
  No cell of these rows narrows 'for every input' (looked for: loops, veiled, ifaces, maps, wideKeys, modest, calm, conditions, laid).
  DERIVED. THE GIVEN ROWS OF THIS SEAT. 12 by the template 'for every input the law returns true; each argument reads behind the call as it read before'; 0 by the template 'total and deterministic' (their statements: YtladnbmemohekaaTotals.lean).
  GIVEN WITH THE SEED: the statements are not yours to turn. If you find one false, say at which input.
  Laid BY PROGRAM, IN A SANDBOX (cutbox-rows.mjs): the forced cells as the released guide's own fill.sh prints them over the translation 111361aa9839137b… (all of the seat's roots in one cut). By AI agents, Wed Nov 11 2026. No macro, syntax, notation, axiom, sorry.
-/
import Derived.Test.YtladnbmemohekaaChecked
import GoSem.Claim
import GoSem.ClaimJoined
import GoSem.ClaimMapViews
import Derived.JoinedTies
import Derived.KernelRfl
namespace Go.Proofs.Ytladnbmemohekaa
/- THE CELL 'sum', in the pinned program and in every row, IS THE sha256 OF THE DUMP (.gsa) THAT YtladnbmemohekaaProg.lean LOADS. Nothing in Lean hashes anything: it is a label: what it is worth is what the hold of that sum in a sandbox is worth. -/
noncomputable def Try.pinned : Pinned := { name := "ytladnbmemohekaa", sum := "111361aa9839137b06499ca898b60eb8d745106a0d29fb89c91c069af3f55308", checked := Try.checked }
namespace Rows
def none {H : Type} : Left H := { results := [], args := [] }

/-- 'laws.FnExactInOrder': WHATEVER THE INPUT: true; the input reads as it did. -/
def fnExactInOrderSpec : ChangeSpec := { name := "fnExactInOrder", fn := fun _ => fun
  | [d] => { results := [.lit (.bool true)], args := [d] }
  | _ => none }
def fnExactInOrderRow : OpenClaim := { program := "ytladnbmemohekaa", sum := "111361aa9839137b06499ca898b60eb8d745106a0d29fb89c91c069af3f55308", func := "loop.example/g00722/laws.FnExactInOrder", spec := "fnExactInOrder", apart := false }
def FnExactInOrderSaid : Prop := fnExactInOrderRow.holds Try.pinned (OpenSpec.ofChange fnExactInOrderSpec)

/-- ITS FALSE NEIGHBOUR: 'it returns false'. Refute it at one input. -/
def fnExactInOrderWrong : ChangeSpec := { name := "fnExactInOrder", fn := fun _ => fun
  | [d] => { results := [.lit (.bool false)], args := [d] }
  | _ => none }
def FnExactInOrderWrongFalsely : Prop := fnExactInOrderRow.holds Try.pinned (OpenSpec.ofChange fnExactInOrderWrong)

/-- 'laws.FnExactAnsweredOnce': WHATEVER THE INPUT: true; the input reads as it did. -/
def fnExactAnsweredOnceSpec : ChangeSpec := { name := "fnExactAnsweredOnce", fn := fun _ => fun
  | [d] => { results := [.lit (.bool true)], args := [d] }
  | _ => none }
def fnExactAnsweredOnceRow : OpenClaim := { program := "ytladnbmemohekaa", sum := "111361aa9839137b06499ca898b60eb8d745106a0d29fb89c91c069af3f55308", func := "loop.example/g00722/laws.FnExactAnsweredOnce", spec := "fnExactAnsweredOnce", apart := false }
def FnExactAnsweredOnceSaid : Prop := fnExactAnsweredOnceRow.holds Try.pinned (OpenSpec.ofChange fnExactAnsweredOnceSpec)

/-- ITS FALSE NEIGHBOUR: 'it returns false'. Refute it at one input. -/
def fnExactAnsweredOnceWrong : ChangeSpec := { name := "fnExactAnsweredOnce", fn := fun _ => fun
  | [d] => { results := [.lit (.bool false)], args := [d] }
  | _ => none }
def FnExactAnsweredOnceWrongFalsely : Prop := fnExactAnsweredOnceRow.holds Try.pinned (OpenSpec.ofChange fnExactAnsweredOnceWrong)

/-- 'laws.FnExactLogSum': WHATEVER THE INPUT: true; the input reads as it did. -/
def fnExactLogSumSpec : ChangeSpec := { name := "fnExactLogSum", fn := fun _ => fun
  | [d] => { results := [.lit (.bool true)], args := [d] }
  | _ => none }
def fnExactLogSumRow : OpenClaim := { program := "ytladnbmemohekaa", sum := "111361aa9839137b06499ca898b60eb8d745106a0d29fb89c91c069af3f55308", func := "loop.example/g00722/laws.FnExactLogSum", spec := "fnExactLogSum", apart := false }
def FnExactLogSumSaid : Prop := fnExactLogSumRow.holds Try.pinned (OpenSpec.ofChange fnExactLogSumSpec)

/-- ITS FALSE NEIGHBOUR: 'it returns false'. Refute it at one input. -/
def fnExactLogSumWrong : ChangeSpec := { name := "fnExactLogSum", fn := fun _ => fun
  | [d] => { results := [.lit (.bool false)], args := [d] }
  | _ => none }
def FnExactLogSumWrongFalsely : Prop := fnExactLogSumRow.holds Try.pinned (OpenSpec.ofChange fnExactLogSumWrong)

/-- 'laws.FnExactPutLog': WHATEVER THE INPUT: true; the input reads as it did. -/
def fnExactPutLogSpec : ChangeSpec := { name := "fnExactPutLog", fn := fun _ => fun
  | [d] => { results := [.lit (.bool true)], args := [d] }
  | _ => none }
def fnExactPutLogRow : OpenClaim := { program := "ytladnbmemohekaa", sum := "111361aa9839137b06499ca898b60eb8d745106a0d29fb89c91c069af3f55308", func := "loop.example/g00722/laws.FnExactPutLog", spec := "fnExactPutLog", apart := false }
def FnExactPutLogSaid : Prop := fnExactPutLogRow.holds Try.pinned (OpenSpec.ofChange fnExactPutLogSpec)

/-- ITS FALSE NEIGHBOUR: 'it returns false'. Refute it at one input. -/
def fnExactPutLogWrong : ChangeSpec := { name := "fnExactPutLog", fn := fun _ => fun
  | [d] => { results := [.lit (.bool false)], args := [d] }
  | _ => none }
def FnExactPutLogWrongFalsely : Prop := fnExactPutLogRow.holds Try.pinned (OpenSpec.ofChange fnExactPutLogWrong)

/-- 'laws.FnExactTakeMost': WHATEVER THE INPUT: true; the input reads as it did. -/
def fnExactTakeMostSpec : ChangeSpec := { name := "fnExactTakeMost", fn := fun _ => fun
  | [d] => { results := [.lit (.bool true)], args := [d] }
  | _ => none }
def fnExactTakeMostRow : OpenClaim := { program := "ytladnbmemohekaa", sum := "111361aa9839137b06499ca898b60eb8d745106a0d29fb89c91c069af3f55308", func := "loop.example/g00722/laws.FnExactTakeMost", spec := "fnExactTakeMost", apart := false }
def FnExactTakeMostSaid : Prop := fnExactTakeMostRow.holds Try.pinned (OpenSpec.ofChange fnExactTakeMostSpec)

/-- ITS FALSE NEIGHBOUR: 'it returns false'. Refute it at one input. -/
def fnExactTakeMostWrong : ChangeSpec := { name := "fnExactTakeMost", fn := fun _ => fun
  | [d] => { results := [.lit (.bool false)], args := [d] }
  | _ => none }
def FnExactTakeMostWrongFalsely : Prop := fnExactTakeMostRow.holds Try.pinned (OpenSpec.ofChange fnExactTakeMostWrong)

/-- 'laws.FnExactOneHolder': WHATEVER THE INPUT: true; the input reads as it did. -/
def fnExactOneHolderSpec : ChangeSpec := { name := "fnExactOneHolder", fn := fun _ => fun
  | [d] => { results := [.lit (.bool true)], args := [d] }
  | _ => none }
def fnExactOneHolderRow : OpenClaim := { program := "ytladnbmemohekaa", sum := "111361aa9839137b06499ca898b60eb8d745106a0d29fb89c91c069af3f55308", func := "loop.example/g00722/laws.FnExactOneHolder", spec := "fnExactOneHolder", apart := false }
def FnExactOneHolderSaid : Prop := fnExactOneHolderRow.holds Try.pinned (OpenSpec.ofChange fnExactOneHolderSpec)

/-- ITS FALSE NEIGHBOUR: 'it returns false'. Refute it at one input. -/
def fnExactOneHolderWrong : ChangeSpec := { name := "fnExactOneHolder", fn := fun _ => fun
  | [d] => { results := [.lit (.bool false)], args := [d] }
  | _ => none }
def FnExactOneHolderWrongFalsely : Prop := fnExactOneHolderRow.holds Try.pinned (OpenSpec.ofChange fnExactOneHolderWrong)

/-- 'laws.FnExactMostLive': WHATEVER THE INPUT: true; the input reads as it did. -/
def fnExactMostLiveSpec : ChangeSpec := { name := "fnExactMostLive", fn := fun _ => fun
  | [d] => { results := [.lit (.bool true)], args := [d] }
  | _ => none }
def fnExactMostLiveRow : OpenClaim := { program := "ytladnbmemohekaa", sum := "111361aa9839137b06499ca898b60eb8d745106a0d29fb89c91c069af3f55308", func := "loop.example/g00722/laws.FnExactMostLive", spec := "fnExactMostLive", apart := false }
def FnExactMostLiveSaid : Prop := fnExactMostLiveRow.holds Try.pinned (OpenSpec.ofChange fnExactMostLiveSpec)

/-- ITS FALSE NEIGHBOUR: 'it returns false'. Refute it at one input. -/
def fnExactMostLiveWrong : ChangeSpec := { name := "fnExactMostLive", fn := fun _ => fun
  | [d] => { results := [.lit (.bool false)], args := [d] }
  | _ => none }
def FnExactMostLiveWrongFalsely : Prop := fnExactMostLiveRow.holds Try.pinned (OpenSpec.ofChange fnExactMostLiveWrong)

/-- 'laws.FnExactLiveAfter': WHATEVER THE INPUT: true; the input reads as it did. -/
def fnExactLiveAfterSpec : ChangeSpec := { name := "fnExactLiveAfter", fn := fun _ => fun
  | [d] => { results := [.lit (.bool true)], args := [d] }
  | _ => none }
def fnExactLiveAfterRow : OpenClaim := { program := "ytladnbmemohekaa", sum := "111361aa9839137b06499ca898b60eb8d745106a0d29fb89c91c069af3f55308", func := "loop.example/g00722/laws.FnExactLiveAfter", spec := "fnExactLiveAfter", apart := false }
def FnExactLiveAfterSaid : Prop := fnExactLiveAfterRow.holds Try.pinned (OpenSpec.ofChange fnExactLiveAfterSpec)

/-- ITS FALSE NEIGHBOUR: 'it returns false'. Refute it at one input. -/
def fnExactLiveAfterWrong : ChangeSpec := { name := "fnExactLiveAfter", fn := fun _ => fun
  | [d] => { results := [.lit (.bool false)], args := [d] }
  | _ => none }
def FnExactLiveAfterWrongFalsely : Prop := fnExactLiveAfterRow.holds Try.pinned (OpenSpec.ofChange fnExactLiveAfterWrong)

/-- 'laws.FnExactTakeLog': WHATEVER THE INPUT: true; the input reads as it did. -/
def fnExactTakeLogSpec : ChangeSpec := { name := "fnExactTakeLog", fn := fun _ => fun
  | [d] => { results := [.lit (.bool true)], args := [d] }
  | _ => none }
def fnExactTakeLogRow : OpenClaim := { program := "ytladnbmemohekaa", sum := "111361aa9839137b06499ca898b60eb8d745106a0d29fb89c91c069af3f55308", func := "loop.example/g00722/laws.FnExactTakeLog", spec := "fnExactTakeLog", apart := false }
def FnExactTakeLogSaid : Prop := fnExactTakeLogRow.holds Try.pinned (OpenSpec.ofChange fnExactTakeLogSpec)

/-- ITS FALSE NEIGHBOUR: 'it returns false'. Refute it at one input. -/
def fnExactTakeLogWrong : ChangeSpec := { name := "fnExactTakeLog", fn := fun _ => fun
  | [d] => { results := [.lit (.bool false)], args := [d] }
  | _ => none }
def FnExactTakeLogWrongFalsely : Prop := fnExactTakeLogRow.holds Try.pinned (OpenSpec.ofChange fnExactTakeLogWrong)

/-- 'laws.FnExactFreshConns': WHATEVER THE INPUT: true; the input reads as it did. -/
def fnExactFreshConnsSpec : ChangeSpec := { name := "fnExactFreshConns", fn := fun _ => fun
  | [d] => { results := [.lit (.bool true)], args := [d] }
  | _ => none }
def fnExactFreshConnsRow : OpenClaim := { program := "ytladnbmemohekaa", sum := "111361aa9839137b06499ca898b60eb8d745106a0d29fb89c91c069af3f55308", func := "loop.example/g00722/laws.FnExactFreshConns", spec := "fnExactFreshConns", apart := false }
def FnExactFreshConnsSaid : Prop := fnExactFreshConnsRow.holds Try.pinned (OpenSpec.ofChange fnExactFreshConnsSpec)

/-- ITS FALSE NEIGHBOUR: 'it returns false'. Refute it at one input. -/
def fnExactFreshConnsWrong : ChangeSpec := { name := "fnExactFreshConns", fn := fun _ => fun
  | [d] => { results := [.lit (.bool false)], args := [d] }
  | _ => none }
def FnExactFreshConnsWrongFalsely : Prop := fnExactFreshConnsRow.holds Try.pinned (OpenSpec.ofChange fnExactFreshConnsWrong)

/-- 'laws.FnBytes': WHATEVER THE INPUT: true; the input reads as it did. -/
def fnBytesSpec : ChangeSpec := { name := "fnBytes", fn := fun _ => fun
  | [d] => { results := [.lit (.bool true)], args := [d] }
  | _ => none }
def fnBytesRow : OpenClaim := { program := "ytladnbmemohekaa", sum := "111361aa9839137b06499ca898b60eb8d745106a0d29fb89c91c069af3f55308", func := "loop.example/g00722/laws.FnBytes", spec := "fnBytes", apart := false }
def FnBytesSaid : Prop := fnBytesRow.holds Try.pinned (OpenSpec.ofChange fnBytesSpec)

/-- ITS FALSE NEIGHBOUR: 'it returns false'. Refute it at one input. -/
def fnBytesWrong : ChangeSpec := { name := "fnBytes", fn := fun _ => fun
  | [d] => { results := [.lit (.bool false)], args := [d] }
  | _ => none }
def FnBytesWrongFalsely : Prop := fnBytesRow.holds Try.pinned (OpenSpec.ofChange fnBytesWrong)

/-- 'laws.FnExactHoldersAt': WHATEVER THE INPUT: true; the input reads as it did. -/
def fnExactHoldersAtSpec : ChangeSpec := { name := "fnExactHoldersAt", fn := fun _ => fun
  | [d1, d2] => { results := [.lit (.bool true)], args := [d1, d2] }
  | _ => none }
def fnExactHoldersAtRow : OpenClaim := { program := "ytladnbmemohekaa", sum := "111361aa9839137b06499ca898b60eb8d745106a0d29fb89c91c069af3f55308", func := "loop.example/g00722/laws.FnExactHoldersAt", spec := "fnExactHoldersAt", recurses := true, apart := false }
def FnExactHoldersAtSaid : Prop := fnExactHoldersAtRow.holds Try.pinned (OpenSpec.ofChange fnExactHoldersAtSpec)

/-- ITS FALSE NEIGHBOUR: 'it returns false'. Refute it at one input. -/
def fnExactHoldersAtWrong : ChangeSpec := { name := "fnExactHoldersAt", fn := fun _ => fun
  | [d1, d2] => { results := [.lit (.bool false)], args := [d1, d2] }
  | _ => none }
def FnExactHoldersAtWrongFalsely : Prop := fnExactHoldersAtRow.holds Try.pinned (OpenSpec.ofChange fnExactHoldersAtWrong)

/- THE SECOND FORM. 'bulk': how many values and letters a reading holds, each counted each time it is reached (what is shared counts as often as it is met; a slice's spare places count too). A statement '..UptoSaid' is the law's where the arguments, and the package variables that the reading takes, are together of bulk at most 1048576: NARROWER than '..Said'. Prove '..Said' where nothing that the law and all that it calls make is longer than what came in: it says more and counts as full. Else prove '..UptoSaid'. A law counts once. -/
mutual
def uptoBulk {H : Type} : DataW H → Nat
  | .lit (.string bytes) => bytes.length + 1
  | .lit _ => 1
  | .nil => 1
  | .ptr d => uptoBulk d + 1
  | .slice elems spare => uptoBulkAll elems + uptoBulkAll spare + 1
  | .agg parts => uptoBulkAll parts + 1
  | .iface _ d => uptoBulk d + 1
  | .map entries => uptoBulkEntries entries + 1
  | .held _ => 1
def uptoBulkAll {H : Type} : List (DataW H) → Nat
  | [] => 0
  | d :: r => uptoBulk d + uptoBulkAll r
def uptoBulkEntries {H : Type} : List (Lit × DataW H) → Nat
  | [] => 0
  | x :: r => uptoBulkEntry x + uptoBulkEntries r
def uptoBulkEntry {H : Type} : Lit × DataW H → Nat
  | (.string bytes, d) => bytes.length + uptoBulk d + 1
  | (_, d) => uptoBulk d + 1
 end
def uptoSmall : (H : Type) → List (DataW H) → Bool := fun _ ds => decide (uptoBulkAll ds ≤ 1048576)
def OpenSpec.upto (s : _root_.Go.ChangeSpec) : _root_.Go.OpenSpec := { _root_.Go.OpenSpec.ofChange s with cond := some uptoSmall }

/-- 'laws.FnExactInOrder', WHERE WHAT IT READS IS OF BULK AT MOST 1048576: true; the input reads as it did. -/
def fnExactInOrderUptoRow : OpenClaim := { program := "ytladnbmemohekaa", sum := "111361aa9839137b06499ca898b60eb8d745106a0d29fb89c91c069af3f55308", func := "loop.example/g00722/laws.FnExactInOrder", spec := "fnExactInOrder", apart := false, narrowed := true }
def FnExactInOrderUptoSaid : Prop := fnExactInOrderUptoRow.holds Try.pinned (OpenSpec.upto fnExactInOrderSpec)

/-- 'laws.FnExactAnsweredOnce', WHERE WHAT IT READS IS OF BULK AT MOST 1048576: true; the input reads as it did. -/
def fnExactAnsweredOnceUptoRow : OpenClaim := { program := "ytladnbmemohekaa", sum := "111361aa9839137b06499ca898b60eb8d745106a0d29fb89c91c069af3f55308", func := "loop.example/g00722/laws.FnExactAnsweredOnce", spec := "fnExactAnsweredOnce", apart := false, narrowed := true }
def FnExactAnsweredOnceUptoSaid : Prop := fnExactAnsweredOnceUptoRow.holds Try.pinned (OpenSpec.upto fnExactAnsweredOnceSpec)

/-- 'laws.FnExactLogSum', WHERE WHAT IT READS IS OF BULK AT MOST 1048576: true; the input reads as it did. -/
def fnExactLogSumUptoRow : OpenClaim := { program := "ytladnbmemohekaa", sum := "111361aa9839137b06499ca898b60eb8d745106a0d29fb89c91c069af3f55308", func := "loop.example/g00722/laws.FnExactLogSum", spec := "fnExactLogSum", apart := false, narrowed := true }
def FnExactLogSumUptoSaid : Prop := fnExactLogSumUptoRow.holds Try.pinned (OpenSpec.upto fnExactLogSumSpec)

/-- 'laws.FnExactPutLog', WHERE WHAT IT READS IS OF BULK AT MOST 1048576: true; the input reads as it did. -/
def fnExactPutLogUptoRow : OpenClaim := { program := "ytladnbmemohekaa", sum := "111361aa9839137b06499ca898b60eb8d745106a0d29fb89c91c069af3f55308", func := "loop.example/g00722/laws.FnExactPutLog", spec := "fnExactPutLog", apart := false, narrowed := true }
def FnExactPutLogUptoSaid : Prop := fnExactPutLogUptoRow.holds Try.pinned (OpenSpec.upto fnExactPutLogSpec)

/-- 'laws.FnExactTakeMost', WHERE WHAT IT READS IS OF BULK AT MOST 1048576: true; the input reads as it did. -/
def fnExactTakeMostUptoRow : OpenClaim := { program := "ytladnbmemohekaa", sum := "111361aa9839137b06499ca898b60eb8d745106a0d29fb89c91c069af3f55308", func := "loop.example/g00722/laws.FnExactTakeMost", spec := "fnExactTakeMost", apart := false, narrowed := true }
def FnExactTakeMostUptoSaid : Prop := fnExactTakeMostUptoRow.holds Try.pinned (OpenSpec.upto fnExactTakeMostSpec)

/-- 'laws.FnExactOneHolder', WHERE WHAT IT READS IS OF BULK AT MOST 1048576: true; the input reads as it did. -/
def fnExactOneHolderUptoRow : OpenClaim := { program := "ytladnbmemohekaa", sum := "111361aa9839137b06499ca898b60eb8d745106a0d29fb89c91c069af3f55308", func := "loop.example/g00722/laws.FnExactOneHolder", spec := "fnExactOneHolder", apart := false, narrowed := true }
def FnExactOneHolderUptoSaid : Prop := fnExactOneHolderUptoRow.holds Try.pinned (OpenSpec.upto fnExactOneHolderSpec)

/-- 'laws.FnExactMostLive', WHERE WHAT IT READS IS OF BULK AT MOST 1048576: true; the input reads as it did. -/
def fnExactMostLiveUptoRow : OpenClaim := { program := "ytladnbmemohekaa", sum := "111361aa9839137b06499ca898b60eb8d745106a0d29fb89c91c069af3f55308", func := "loop.example/g00722/laws.FnExactMostLive", spec := "fnExactMostLive", apart := false, narrowed := true }
def FnExactMostLiveUptoSaid : Prop := fnExactMostLiveUptoRow.holds Try.pinned (OpenSpec.upto fnExactMostLiveSpec)

/-- 'laws.FnExactLiveAfter', WHERE WHAT IT READS IS OF BULK AT MOST 1048576: true; the input reads as it did. -/
def fnExactLiveAfterUptoRow : OpenClaim := { program := "ytladnbmemohekaa", sum := "111361aa9839137b06499ca898b60eb8d745106a0d29fb89c91c069af3f55308", func := "loop.example/g00722/laws.FnExactLiveAfter", spec := "fnExactLiveAfter", apart := false, narrowed := true }
def FnExactLiveAfterUptoSaid : Prop := fnExactLiveAfterUptoRow.holds Try.pinned (OpenSpec.upto fnExactLiveAfterSpec)

/-- 'laws.FnExactTakeLog', WHERE WHAT IT READS IS OF BULK AT MOST 1048576: true; the input reads as it did. -/
def fnExactTakeLogUptoRow : OpenClaim := { program := "ytladnbmemohekaa", sum := "111361aa9839137b06499ca898b60eb8d745106a0d29fb89c91c069af3f55308", func := "loop.example/g00722/laws.FnExactTakeLog", spec := "fnExactTakeLog", apart := false, narrowed := true }
def FnExactTakeLogUptoSaid : Prop := fnExactTakeLogUptoRow.holds Try.pinned (OpenSpec.upto fnExactTakeLogSpec)

/-- 'laws.FnExactFreshConns', WHERE WHAT IT READS IS OF BULK AT MOST 1048576: true; the input reads as it did. -/
def fnExactFreshConnsUptoRow : OpenClaim := { program := "ytladnbmemohekaa", sum := "111361aa9839137b06499ca898b60eb8d745106a0d29fb89c91c069af3f55308", func := "loop.example/g00722/laws.FnExactFreshConns", spec := "fnExactFreshConns", apart := false, narrowed := true }
def FnExactFreshConnsUptoSaid : Prop := fnExactFreshConnsUptoRow.holds Try.pinned (OpenSpec.upto fnExactFreshConnsSpec)

/-- 'laws.FnBytes', WHERE WHAT IT READS IS OF BULK AT MOST 1048576: true; the input reads as it did. -/
def fnBytesUptoRow : OpenClaim := { program := "ytladnbmemohekaa", sum := "111361aa9839137b06499ca898b60eb8d745106a0d29fb89c91c069af3f55308", func := "loop.example/g00722/laws.FnBytes", spec := "fnBytes", apart := false, narrowed := true }
def FnBytesUptoSaid : Prop := fnBytesUptoRow.holds Try.pinned (OpenSpec.upto fnBytesSpec)

/-- 'laws.FnExactHoldersAt', WHERE WHAT IT READS IS OF BULK AT MOST 1048576: true; the input reads as it did. -/
def fnExactHoldersAtUptoRow : OpenClaim := { program := "ytladnbmemohekaa", sum := "111361aa9839137b06499ca898b60eb8d745106a0d29fb89c91c069af3f55308", func := "loop.example/g00722/laws.FnExactHoldersAt", spec := "fnExactHoldersAt", recurses := true, apart := false, narrowed := true }
def FnExactHoldersAtUptoSaid : Prop := fnExactHoldersAtUptoRow.holds Try.pinned (OpenSpec.upto fnExactHoldersAtSpec)

end Rows
end Go.Proofs.Ytladnbmemohekaa
