/- What the arguments of FnExactAnsweredOnce read as: the ranges of their whole numbers, kind by kind. No condition. -/
import Derived.Test.YtfnphdikfialnaaPFnExactAnsweredOncex0
import Derived.Test.YtfnphdikfialnaaOpn
namespace Go.Proofs.Ytfnphdikfialnaa.PFnExactAnsweredOnce
open Go.RowKit Go.ChangeShapes Go.WideShapes Go.Proofs.YtfnphdikfialnaaW.PrintWords Go.Proofs.Ytfnphdikfialnaa.Opn
set_option linter.unusedVariables false
theorem k33_spread {w : World} {x : S33} {cs : List Value} (h : k33.K w x cs) : cs = [.int .i64 x.f0, .int .i64 x.f1, .int .i64 x.f2] := by
  obtain ⟨_, _, rfl, rfl, ⟨_, _, rfl, rfl, rfl⟩⟩ := h
  exact rfl
def G33 (x : S33) : Prop := I64 x.f0 ∧ I64 x.f1 ∧ I64 x.f2
theorem opens33 : Opens Try.prog 33 k33 G33 :=
  opens_imp (opens_iso (fun a => ⟨a.1, a.2.1, a.2.2⟩) (fun _ => rfl) (opens_struct Try.underlying33 (by kernel_rfl) (at_cons rfl (by kernel_rfl) (opens_i64 Try.underlying3) (at_cons rfl (by kernel_rfl) (opens_i64 Try.underlying3) (at_one rfl (by kernel_rfl) (opens_i64 Try.underlying3)))))) (fun _ h => h)
end Go.Proofs.Ytfnphdikfialnaa.PFnExactAnsweredOnce
