/- What the arguments of FnExactFreshConns read as: the ranges of their whole numbers, kind by kind. No condition. -/
import Derived.Test.YtciehpgbhfngiaaPFnExactFreshConnsx0
import Derived.Test.YtciehpgbhfngiaaOpn
namespace Go.Proofs.Ytciehpgbhfngiaa.PFnExactFreshConns
open Go.RowKit Go.ChangeShapes Go.WideShapes Go.Proofs.YtciehpgbhfngiaaW.PrintWords Go.Proofs.Ytciehpgbhfngiaa.Opn
set_option linter.unusedVariables false
theorem k35_spread {w : World} {x : S35} {cs : List Value} (h : k35.K w x cs) : cs = [.int .i64 x.f0, .int .i64 x.f1, .int .i64 x.f2] := by
  obtain ⟨_, _, rfl, rfl, ⟨_, _, rfl, rfl, rfl⟩⟩ := h
  exact rfl
def G35 (x : S35) : Prop := I64 x.f0 ∧ I64 x.f1 ∧ I64 x.f2
theorem opens35 : Opens Try.prog 35 k35 G35 :=
  opens_imp (opens_iso (fun a => ⟨a.1, a.2.1, a.2.2⟩) (fun _ => rfl) (opens_struct Try.underlying35 (by kernel_rfl) (at_cons rfl (by kernel_rfl) (opens_i64 Try.underlying3) (at_cons rfl (by kernel_rfl) (opens_i64 Try.underlying3) (at_one rfl (by kernel_rfl) (opens_i64 Try.underlying3)))))) (fun _ h => h)
end Go.Proofs.Ytciehpgbhfngiaa.PFnExactFreshConns
