/- What the arguments of FnExactMostLive read as: the ranges of their whole numbers, kind by kind. No condition. -/
import Derived.Test.YtladnbmemohekaaPFnExactMostLivex0
import Derived.Test.YtladnbmemohekaaOpn
namespace Go.Proofs.Ytladnbmemohekaa.PFnExactMostLive
open Go.RowKit Go.ChangeShapes Go.WideShapes Go.Proofs.YtladnbmemohekaaW.PrintWords Go.Proofs.Ytladnbmemohekaa.Opn
set_option linter.unusedVariables false
theorem k52_spread {w : World} {x : S52} {cs : List Value} (h : k52.K w x cs) : cs = [.int .i64 x.f0, .int .i64 x.f1, .int .i64 x.f2] := by
  obtain ⟨_, _, rfl, rfl, ⟨_, _, rfl, rfl, rfl⟩⟩ := h
  exact rfl
def G52 (x : S52) : Prop := I64 x.f0 ∧ I64 x.f1 ∧ I64 x.f2
theorem opens52 : Opens Try.prog 52 k52 G52 :=
  opens_imp (opens_iso (fun a => ⟨a.1, a.2.1, a.2.2⟩) (fun _ => rfl) (opens_struct Try.underlying52 (by kernel_rfl) (at_cons rfl (by kernel_rfl) (opens_i64 Try.underlying3) (at_cons rfl (by kernel_rfl) (opens_i64 Try.underlying3) (at_one rfl (by kernel_rfl) (opens_i64 Try.underlying3)))))) (fun _ h => h)
end Go.Proofs.Ytladnbmemohekaa.PFnExactMostLive
