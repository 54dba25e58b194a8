/-
  No cell of these rows narrows 'for every input' (looked for: loops, veiled, ifaces, maps, wideKeys, modest, calm, conditions, laid).
  DERIVED. THE GIVEN ROWS OF THIS SEAT. 12 by the template 'for every input the law returns true; each argument reads behind the call as it read before'; 0 by the template 'total and deterministic' (their statements: YtkkfhanoladpeaaTotals.lean).
  GIVEN WITH THE SEED: the statements are not yours to turn. If you find one false, say at which input.
  Laid BY PROGRAM, IN A SANDBOX (cutbox-rows.mjs): the forced cells as the released guide's own fill.sh prints them over the translation 351bba5793eb733d… (all of the seat's roots in one cut). By AI agents, Wed Nov 11 2026. No macro, syntax, notation, axiom, sorry.
-/
import Derived.Test.YtkkfhanoladpeaaChecked
import GoSem.Claim
import GoSem.ClaimJoined
import GoSem.ClaimMapViews
import Derived.JoinedTies
import Derived.KernelRfl
namespace Go.Proofs.Ytkkfhanoladpeaa
/- THE CELL 'sum', in the pinned program and in every row, IS THE sha256 OF THE DUMP (.gsa) THAT YtkkfhanoladpeaaProg.lean LOADS. Nothing in Lean hashes anything: it is a label: what it is worth is what the hold of that sum in a sandbox is worth. -/
noncomputable def Try.pinned : Pinned := { name := "ytkkfhanoladpeaa", sum := "351bba5793eb733db0f40ad4ea3911beecda8882400441cd638c05f246e01544", checked := Try.checked }
namespace Rows
def none {H : Type} : Left H := { results := [], args := [] }

/-- 'laws.FnExactEnvOk': WHATEVER THE INPUT: true; the input reads as it did. -/
def fnExactEnvOkSpec : ChangeSpec := { name := "fnExactEnvOk", fn := fun _ => fun
  | [d] => { results := [.lit (.bool true)], args := [d] }
  | _ => none }
def fnExactEnvOkRow : OpenClaim := { program := "ytkkfhanoladpeaa", sum := "351bba5793eb733db0f40ad4ea3911beecda8882400441cd638c05f246e01544", func := "loop.example/g00722/laws.FnExactEnvOk", spec := "fnExactEnvOk", apart := false }
def FnExactEnvOkSaid : Prop := fnExactEnvOkRow.holds Try.pinned (OpenSpec.ofChange fnExactEnvOkSpec)

/-- ITS FALSE NEIGHBOUR: 'it returns false'. Refute it at one input. -/
def fnExactEnvOkWrong : ChangeSpec := { name := "fnExactEnvOk", fn := fun _ => fun
  | [d] => { results := [.lit (.bool false)], args := [d] }
  | _ => none }
def FnExactEnvOkWrongFalsely : Prop := fnExactEnvOkRow.holds Try.pinned (OpenSpec.ofChange fnExactEnvOkWrong)

/-- 'laws.FnExactArrivalsOk': WHATEVER THE INPUT: true; the input reads as it did. -/
def fnExactArrivalsOkSpec : ChangeSpec := { name := "fnExactArrivalsOk", fn := fun _ => fun
  | [d] => { results := [.lit (.bool true)], args := [d] }
  | _ => none }
def fnExactArrivalsOkRow : OpenClaim := { program := "ytkkfhanoladpeaa", sum := "351bba5793eb733db0f40ad4ea3911beecda8882400441cd638c05f246e01544", func := "loop.example/g00722/laws.FnExactArrivalsOk", spec := "fnExactArrivalsOk", apart := false }
def FnExactArrivalsOkSaid : Prop := fnExactArrivalsOkRow.holds Try.pinned (OpenSpec.ofChange fnExactArrivalsOkSpec)

/-- ITS FALSE NEIGHBOUR: 'it returns false'. Refute it at one input. -/
def fnExactArrivalsOkWrong : ChangeSpec := { name := "fnExactArrivalsOk", fn := fun _ => fun
  | [d] => { results := [.lit (.bool false)], args := [d] }
  | _ => none }
def FnExactArrivalsOkWrongFalsely : Prop := fnExactArrivalsOkRow.holds Try.pinned (OpenSpec.ofChange fnExactArrivalsOkWrong)

/-- 'laws.FnExactPutNumber': WHATEVER THE INPUT: true; the input reads as it did. -/
def fnExactPutNumberSpec : ChangeSpec := { name := "fnExactPutNumber", fn := fun _ => fun
  | [d] => { results := [.lit (.bool true)], args := [d] }
  | _ => none }
def fnExactPutNumberRow : OpenClaim := { program := "ytkkfhanoladpeaa", sum := "351bba5793eb733db0f40ad4ea3911beecda8882400441cd638c05f246e01544", func := "loop.example/g00722/laws.FnExactPutNumber", spec := "fnExactPutNumber", apart := false }
def FnExactPutNumberSaid : Prop := fnExactPutNumberRow.holds Try.pinned (OpenSpec.ofChange fnExactPutNumberSpec)

/-- ITS FALSE NEIGHBOUR: 'it returns false'. Refute it at one input. -/
def fnExactPutNumberWrong : ChangeSpec := { name := "fnExactPutNumber", fn := fun _ => fun
  | [d] => { results := [.lit (.bool false)], args := [d] }
  | _ => none }
def FnExactPutNumberWrongFalsely : Prop := fnExactPutNumberRow.holds Try.pinned (OpenSpec.ofChange fnExactPutNumberWrong)

/-- 'laws.FnExactTakeNumber': WHATEVER THE INPUT: true; the input reads as it did. -/
def fnExactTakeNumberSpec : ChangeSpec := { name := "fnExactTakeNumber", fn := fun _ => fun
  | [d1, d2] => { results := [.lit (.bool true)], args := [d1, d2] }
  | _ => none }
def fnExactTakeNumberRow : OpenClaim := { program := "ytkkfhanoladpeaa", sum := "351bba5793eb733db0f40ad4ea3911beecda8882400441cd638c05f246e01544", func := "loop.example/g00722/laws.FnExactTakeNumber", spec := "fnExactTakeNumber", apart := false }
def FnExactTakeNumberSaid : Prop := fnExactTakeNumberRow.holds Try.pinned (OpenSpec.ofChange fnExactTakeNumberSpec)

/-- ITS FALSE NEIGHBOUR: 'it returns false'. Refute it at one input. -/
def fnExactTakeNumberWrong : ChangeSpec := { name := "fnExactTakeNumber", fn := fun _ => fun
  | [d1, d2] => { results := [.lit (.bool false)], args := [d1, d2] }
  | _ => none }
def FnExactTakeNumberWrongFalsely : Prop := fnExactTakeNumberRow.holds Try.pinned (OpenSpec.ofChange fnExactTakeNumberWrong)

/-- 'laws.FnExactBoundOf': WHATEVER THE INPUT: true; the input reads as it did. -/
def fnExactBoundOfSpec : ChangeSpec := { name := "fnExactBoundOf", fn := fun _ => fun
  | [d1, d2, d3] => { results := [.lit (.bool true)], args := [d1, d2, d3] }
  | _ => none }
def fnExactBoundOfRow : OpenClaim := { program := "ytkkfhanoladpeaa", sum := "351bba5793eb733db0f40ad4ea3911beecda8882400441cd638c05f246e01544", func := "loop.example/g00722/laws.FnExactBoundOf", spec := "fnExactBoundOf", apart := false }
def FnExactBoundOfSaid : Prop := fnExactBoundOfRow.holds Try.pinned (OpenSpec.ofChange fnExactBoundOfSpec)

/-- ITS FALSE NEIGHBOUR: 'it returns false'. Refute it at one input. -/
def fnExactBoundOfWrong : ChangeSpec := { name := "fnExactBoundOf", fn := fun _ => fun
  | [d1, d2, d3] => { results := [.lit (.bool false)], args := [d1, d2, d3] }
  | _ => none }
def FnExactBoundOfWrongFalsely : Prop := fnExactBoundOfRow.holds Try.pinned (OpenSpec.ofChange fnExactBoundOfWrong)

/-- 'laws.FnExactEvenArrivals': WHATEVER THE INPUT: true; the input reads as it did. -/
def fnExactEvenArrivalsSpec : ChangeSpec := { name := "fnExactEvenArrivals", fn := fun _ => fun
  | [d1, d2] => { results := [.lit (.bool true)], args := [d1, d2] }
  | _ => none }
def fnExactEvenArrivalsRow : OpenClaim := { program := "ytkkfhanoladpeaa", sum := "351bba5793eb733db0f40ad4ea3911beecda8882400441cd638c05f246e01544", func := "loop.example/g00722/laws.FnExactEvenArrivals", spec := "fnExactEvenArrivals", apart := false }
def FnExactEvenArrivalsSaid : Prop := fnExactEvenArrivalsRow.holds Try.pinned (OpenSpec.ofChange fnExactEvenArrivalsSpec)

/-- ITS FALSE NEIGHBOUR: 'it returns false'. Refute it at one input. -/
def fnExactEvenArrivalsWrong : ChangeSpec := { name := "fnExactEvenArrivals", fn := fun _ => fun
  | [d1, d2] => { results := [.lit (.bool false)], args := [d1, d2] }
  | _ => none }
def FnExactEvenArrivalsWrongFalsely : Prop := fnExactEvenArrivalsRow.holds Try.pinned (OpenSpec.ofChange fnExactEvenArrivalsWrong)

/-- 'laws.FnExactPutEvent': WHATEVER THE INPUT: true; the input reads as it did. -/
def fnExactPutEventSpec : ChangeSpec := { name := "fnExactPutEvent", fn := fun _ => fun
  | [d] => { results := [.lit (.bool true)], args := [d] }
  | _ => none }
def fnExactPutEventRow : OpenClaim := { program := "ytkkfhanoladpeaa", sum := "351bba5793eb733db0f40ad4ea3911beecda8882400441cd638c05f246e01544", func := "loop.example/g00722/laws.FnExactPutEvent", spec := "fnExactPutEvent", apart := false }
def FnExactPutEventSaid : Prop := fnExactPutEventRow.holds Try.pinned (OpenSpec.ofChange fnExactPutEventSpec)

/-- ITS FALSE NEIGHBOUR: 'it returns false'. Refute it at one input. -/
def fnExactPutEventWrong : ChangeSpec := { name := "fnExactPutEvent", fn := fun _ => fun
  | [d] => { results := [.lit (.bool false)], args := [d] }
  | _ => none }
def FnExactPutEventWrongFalsely : Prop := fnExactPutEventRow.holds Try.pinned (OpenSpec.ofChange fnExactPutEventWrong)

/-- 'laws.FnExactTakeEvent': WHATEVER THE INPUT: true; the input reads as it did. -/
def fnExactTakeEventSpec : ChangeSpec := { name := "fnExactTakeEvent", fn := fun _ => fun
  | [d1, d2] => { results := [.lit (.bool true)], args := [d1, d2] }
  | _ => none }
def fnExactTakeEventRow : OpenClaim := { program := "ytkkfhanoladpeaa", sum := "351bba5793eb733db0f40ad4ea3911beecda8882400441cd638c05f246e01544", func := "loop.example/g00722/laws.FnExactTakeEvent", spec := "fnExactTakeEvent", apart := false }
def FnExactTakeEventSaid : Prop := fnExactTakeEventRow.holds Try.pinned (OpenSpec.ofChange fnExactTakeEventSpec)

/-- ITS FALSE NEIGHBOUR: 'it returns false'. Refute it at one input. -/
def fnExactTakeEventWrong : ChangeSpec := { name := "fnExactTakeEvent", fn := fun _ => fun
  | [d1, d2] => { results := [.lit (.bool false)], args := [d1, d2] }
  | _ => none }
def FnExactTakeEventWrongFalsely : Prop := fnExactTakeEventRow.holds Try.pinned (OpenSpec.ofChange fnExactTakeEventWrong)

/-- 'laws.FnExactLogOk': WHATEVER THE INPUT: true; the input reads as it did. -/
def fnExactLogOkSpec : ChangeSpec := { name := "fnExactLogOk", fn := fun _ => fun
  | [d] => { results := [.lit (.bool true)], args := [d] }
  | _ => none }
def fnExactLogOkRow : OpenClaim := { program := "ytkkfhanoladpeaa", sum := "351bba5793eb733db0f40ad4ea3911beecda8882400441cd638c05f246e01544", func := "loop.example/g00722/laws.FnExactLogOk", spec := "fnExactLogOk", apart := false }
def FnExactLogOkSaid : Prop := fnExactLogOkRow.holds Try.pinned (OpenSpec.ofChange fnExactLogOkSpec)

/-- ITS FALSE NEIGHBOUR: 'it returns false'. Refute it at one input. -/
def fnExactLogOkWrong : ChangeSpec := { name := "fnExactLogOk", fn := fun _ => fun
  | [d] => { results := [.lit (.bool false)], args := [d] }
  | _ => none }
def FnExactLogOkWrongFalsely : Prop := fnExactLogOkRow.holds Try.pinned (OpenSpec.ofChange fnExactLogOkWrong)

/-- 'laws.FnExactAnswerOf': WHATEVER THE INPUT: true; the input reads as it did. -/
def fnExactAnswerOfSpec : ChangeSpec := { name := "fnExactAnswerOf", fn := fun _ => fun
  | [d1, d2] => { results := [.lit (.bool true)], args := [d1, d2] }
  | _ => none }
def fnExactAnswerOfRow : OpenClaim := { program := "ytkkfhanoladpeaa", sum := "351bba5793eb733db0f40ad4ea3911beecda8882400441cd638c05f246e01544", func := "loop.example/g00722/laws.FnExactAnswerOf", spec := "fnExactAnswerOf", apart := false }
def FnExactAnswerOfSaid : Prop := fnExactAnswerOfRow.holds Try.pinned (OpenSpec.ofChange fnExactAnswerOfSpec)

/-- ITS FALSE NEIGHBOUR: 'it returns false'. Refute it at one input. -/
def fnExactAnswerOfWrong : ChangeSpec := { name := "fnExactAnswerOf", fn := fun _ => fun
  | [d1, d2] => { results := [.lit (.bool false)], args := [d1, d2] }
  | _ => none }
def FnExactAnswerOfWrongFalsely : Prop := fnExactAnswerOfRow.holds Try.pinned (OpenSpec.ofChange fnExactAnswerOfWrong)

/-- 'laws.FnExactDrainedOk': WHATEVER THE INPUT: true; the input reads as it did. -/
def fnExactDrainedOkSpec : ChangeSpec := { name := "fnExactDrainedOk", fn := fun _ => fun
  | [d] => { results := [.lit (.bool true)], args := [d] }
  | _ => none }
def fnExactDrainedOkRow : OpenClaim := { program := "ytkkfhanoladpeaa", sum := "351bba5793eb733db0f40ad4ea3911beecda8882400441cd638c05f246e01544", func := "loop.example/g00722/laws.FnExactDrainedOk", spec := "fnExactDrainedOk", apart := false }
def FnExactDrainedOkSaid : Prop := fnExactDrainedOkRow.holds Try.pinned (OpenSpec.ofChange fnExactDrainedOkSpec)

/-- ITS FALSE NEIGHBOUR: 'it returns false'. Refute it at one input. -/
def fnExactDrainedOkWrong : ChangeSpec := { name := "fnExactDrainedOk", fn := fun _ => fun
  | [d] => { results := [.lit (.bool false)], args := [d] }
  | _ => none }
def FnExactDrainedOkWrongFalsely : Prop := fnExactDrainedOkRow.holds Try.pinned (OpenSpec.ofChange fnExactDrainedOkWrong)

/-- 'laws.FnExactRepeat': WHATEVER THE INPUT: true; the input reads as it did. -/
def fnExactRepeatSpec : ChangeSpec := { name := "fnExactRepeat", fn := fun _ => fun
  | [d1, d2] => { results := [.lit (.bool true)], args := [d1, d2] }
  | _ => none }
def fnExactRepeatRow : OpenClaim := { program := "ytkkfhanoladpeaa", sum := "351bba5793eb733db0f40ad4ea3911beecda8882400441cd638c05f246e01544", func := "loop.example/g00722/laws.FnExactRepeat", spec := "fnExactRepeat", apart := false }
def FnExactRepeatSaid : Prop := fnExactRepeatRow.holds Try.pinned (OpenSpec.ofChange fnExactRepeatSpec)

/-- ITS FALSE NEIGHBOUR: 'it returns false'. Refute it at one input. -/
def fnExactRepeatWrong : ChangeSpec := { name := "fnExactRepeat", fn := fun _ => fun
  | [d1, d2] => { results := [.lit (.bool false)], args := [d1, d2] }
  | _ => none }
def FnExactRepeatWrongFalsely : Prop := fnExactRepeatRow.holds Try.pinned (OpenSpec.ofChange fnExactRepeatWrong)

/- THE SECOND FORM. 'bulk': how many values and letters a reading holds, each counted each time it is reached (what is shared counts as often as it is met; a slice's spare places count too). A statement '..UptoSaid' is the law's where the arguments, and the package variables that the reading takes, are together of bulk at most 1048576: NARROWER than '..Said'. Prove '..Said' where nothing that the law and all that it calls make is longer than what came in: it says more and counts as full. Else prove '..UptoSaid'. A law counts once. -/
mutual
def uptoBulk {H : Type} : DataW H → Nat
  | .lit (.string bytes) => bytes.length + 1
  | .lit _ => 1
  | .nil => 1
  | .ptr d => uptoBulk d + 1
  | .slice elems spare => uptoBulkAll elems + uptoBulkAll spare + 1
  | .agg parts => uptoBulkAll parts + 1
  | .iface _ d => uptoBulk d + 1
  | .map entries => uptoBulkEntries entries + 1
  | .held _ => 1
def uptoBulkAll {H : Type} : List (DataW H) → Nat
  | [] => 0
  | d :: r => uptoBulk d + uptoBulkAll r
def uptoBulkEntries {H : Type} : List (Lit × DataW H) → Nat
  | [] => 0
  | x :: r => uptoBulkEntry x + uptoBulkEntries r
def uptoBulkEntry {H : Type} : Lit × DataW H → Nat
  | (.string bytes, d) => bytes.length + uptoBulk d + 1
  | (_, d) => uptoBulk d + 1
 end
def uptoSmall : (H : Type) → List (DataW H) → Bool := fun _ ds => decide (uptoBulkAll ds ≤ 1048576)
def OpenSpec.upto (s : _root_.Go.ChangeSpec) : _root_.Go.OpenSpec := { _root_.Go.OpenSpec.ofChange s with cond := some uptoSmall }

/-- 'laws.FnExactEnvOk', WHERE WHAT IT READS IS OF BULK AT MOST 1048576: true; the input reads as it did. -/
def fnExactEnvOkUptoRow : OpenClaim := { program := "ytkkfhanoladpeaa", sum := "351bba5793eb733db0f40ad4ea3911beecda8882400441cd638c05f246e01544", func := "loop.example/g00722/laws.FnExactEnvOk", spec := "fnExactEnvOk", apart := false, narrowed := true }
def FnExactEnvOkUptoSaid : Prop := fnExactEnvOkUptoRow.holds Try.pinned (OpenSpec.upto fnExactEnvOkSpec)

/-- 'laws.FnExactArrivalsOk', WHERE WHAT IT READS IS OF BULK AT MOST 1048576: true; the input reads as it did. -/
def fnExactArrivalsOkUptoRow : OpenClaim := { program := "ytkkfhanoladpeaa", sum := "351bba5793eb733db0f40ad4ea3911beecda8882400441cd638c05f246e01544", func := "loop.example/g00722/laws.FnExactArrivalsOk", spec := "fnExactArrivalsOk", apart := false, narrowed := true }
def FnExactArrivalsOkUptoSaid : Prop := fnExactArrivalsOkUptoRow.holds Try.pinned (OpenSpec.upto fnExactArrivalsOkSpec)

/-- 'laws.FnExactPutNumber', WHERE WHAT IT READS IS OF BULK AT MOST 1048576: true; the input reads as it did. -/
def fnExactPutNumberUptoRow : OpenClaim := { program := "ytkkfhanoladpeaa", sum := "351bba5793eb733db0f40ad4ea3911beecda8882400441cd638c05f246e01544", func := "loop.example/g00722/laws.FnExactPutNumber", spec := "fnExactPutNumber", apart := false, narrowed := true }
def FnExactPutNumberUptoSaid : Prop := fnExactPutNumberUptoRow.holds Try.pinned (OpenSpec.upto fnExactPutNumberSpec)

/-- 'laws.FnExactTakeNumber', WHERE WHAT IT READS IS OF BULK AT MOST 1048576: true; the input reads as it did. -/
def fnExactTakeNumberUptoRow : OpenClaim := { program := "ytkkfhanoladpeaa", sum := "351bba5793eb733db0f40ad4ea3911beecda8882400441cd638c05f246e01544", func := "loop.example/g00722/laws.FnExactTakeNumber", spec := "fnExactTakeNumber", apart := false, narrowed := true }
def FnExactTakeNumberUptoSaid : Prop := fnExactTakeNumberUptoRow.holds Try.pinned (OpenSpec.upto fnExactTakeNumberSpec)

/-- 'laws.FnExactBoundOf', WHERE WHAT IT READS IS OF BULK AT MOST 1048576: true; the input reads as it did. -/
def fnExactBoundOfUptoRow : OpenClaim := { program := "ytkkfhanoladpeaa", sum := "351bba5793eb733db0f40ad4ea3911beecda8882400441cd638c05f246e01544", func := "loop.example/g00722/laws.FnExactBoundOf", spec := "fnExactBoundOf", apart := false, narrowed := true }
def FnExactBoundOfUptoSaid : Prop := fnExactBoundOfUptoRow.holds Try.pinned (OpenSpec.upto fnExactBoundOfSpec)

/-- 'laws.FnExactEvenArrivals', WHERE WHAT IT READS IS OF BULK AT MOST 1048576: true; the input reads as it did. -/
def fnExactEvenArrivalsUptoRow : OpenClaim := { program := "ytkkfhanoladpeaa", sum := "351bba5793eb733db0f40ad4ea3911beecda8882400441cd638c05f246e01544", func := "loop.example/g00722/laws.FnExactEvenArrivals", spec := "fnExactEvenArrivals", apart := false, narrowed := true }
def FnExactEvenArrivalsUptoSaid : Prop := fnExactEvenArrivalsUptoRow.holds Try.pinned (OpenSpec.upto fnExactEvenArrivalsSpec)

/-- 'laws.FnExactPutEvent', WHERE WHAT IT READS IS OF BULK AT MOST 1048576: true; the input reads as it did. -/
def fnExactPutEventUptoRow : OpenClaim := { program := "ytkkfhanoladpeaa", sum := "351bba5793eb733db0f40ad4ea3911beecda8882400441cd638c05f246e01544", func := "loop.example/g00722/laws.FnExactPutEvent", spec := "fnExactPutEvent", apart := false, narrowed := true }
def FnExactPutEventUptoSaid : Prop := fnExactPutEventUptoRow.holds Try.pinned (OpenSpec.upto fnExactPutEventSpec)

/-- 'laws.FnExactTakeEvent', WHERE WHAT IT READS IS OF BULK AT MOST 1048576: true; the input reads as it did. -/
def fnExactTakeEventUptoRow : OpenClaim := { program := "ytkkfhanoladpeaa", sum := "351bba5793eb733db0f40ad4ea3911beecda8882400441cd638c05f246e01544", func := "loop.example/g00722/laws.FnExactTakeEvent", spec := "fnExactTakeEvent", apart := false, narrowed := true }
def FnExactTakeEventUptoSaid : Prop := fnExactTakeEventUptoRow.holds Try.pinned (OpenSpec.upto fnExactTakeEventSpec)

/-- 'laws.FnExactLogOk', WHERE WHAT IT READS IS OF BULK AT MOST 1048576: true; the input reads as it did. -/
def fnExactLogOkUptoRow : OpenClaim := { program := "ytkkfhanoladpeaa", sum := "351bba5793eb733db0f40ad4ea3911beecda8882400441cd638c05f246e01544", func := "loop.example/g00722/laws.FnExactLogOk", spec := "fnExactLogOk", apart := false, narrowed := true }
def FnExactLogOkUptoSaid : Prop := fnExactLogOkUptoRow.holds Try.pinned (OpenSpec.upto fnExactLogOkSpec)

/-- 'laws.FnExactAnswerOf', WHERE WHAT IT READS IS OF BULK AT MOST 1048576: true; the input reads as it did. -/
def fnExactAnswerOfUptoRow : OpenClaim := { program := "ytkkfhanoladpeaa", sum := "351bba5793eb733db0f40ad4ea3911beecda8882400441cd638c05f246e01544", func := "loop.example/g00722/laws.FnExactAnswerOf", spec := "fnExactAnswerOf", apart := false, narrowed := true }
def FnExactAnswerOfUptoSaid : Prop := fnExactAnswerOfUptoRow.holds Try.pinned (OpenSpec.upto fnExactAnswerOfSpec)

/-- 'laws.FnExactDrainedOk', WHERE WHAT IT READS IS OF BULK AT MOST 1048576: true; the input reads as it did. -/
def fnExactDrainedOkUptoRow : OpenClaim := { program := "ytkkfhanoladpeaa", sum := "351bba5793eb733db0f40ad4ea3911beecda8882400441cd638c05f246e01544", func := "loop.example/g00722/laws.FnExactDrainedOk", spec := "fnExactDrainedOk", apart := false, narrowed := true }
def FnExactDrainedOkUptoSaid : Prop := fnExactDrainedOkUptoRow.holds Try.pinned (OpenSpec.upto fnExactDrainedOkSpec)

/-- 'laws.FnExactRepeat', WHERE WHAT IT READS IS OF BULK AT MOST 1048576: true; the input reads as it did. -/
def fnExactRepeatUptoRow : OpenClaim := { program := "ytkkfhanoladpeaa", sum := "351bba5793eb733db0f40ad4ea3911beecda8882400441cd638c05f246e01544", func := "loop.example/g00722/laws.FnExactRepeat", spec := "fnExactRepeat", apart := false, narrowed := true }
def FnExactRepeatUptoSaid : Prop := fnExactRepeatUptoRow.holds Try.pinned (OpenSpec.upto fnExactRepeatSpec)

end Rows
end Go.Proofs.Ytkkfhanoladpeaa
