/- What the arguments of FnExactSchedule read as: the ranges of their whole numbers, kind by kind. No condition. -/
import Derived.Test.YtdffkcbaijbhoaaPFnExactSchedulex0
import Derived.Test.YtdffkcbaijbhoaaOpn
namespace Go.Proofs.Ytdffkcbaijbhoaa.PFnExactSchedule
open Go.RowKit Go.ChangeShapes Go.WideShapes Go.Proofs.YtdffkcbaijbhoaaW.PrintWords Go.Proofs.Ytdffkcbaijbhoaa.Opn
set_option linter.unusedVariables false
theorem k84_spread {w : World} {x : S84} {cs : List Value} (h : k84.K w x cs) : cs = [.int .i64 x.f0, .int .i64 x.f1, .int .i64 x.f2] := by
  obtain ⟨_, _, rfl, rfl, ⟨_, _, rfl, rfl, rfl⟩⟩ := h
  exact rfl
def G84 (x : S84) : Prop := I64 x.f0 ∧ I64 x.f1 ∧ I64 x.f2
theorem opens84 : Opens Try.prog 84 k84 G84 :=
  opens_imp (opens_iso (fun a => ⟨a.1, a.2.1, a.2.2⟩) (fun _ => rfl) (opens_struct Try.underlying84 (by kernel_rfl) (at_cons rfl (by kernel_rfl) (opens_i64 Try.underlying3) (at_cons rfl (by kernel_rfl) (opens_i64 Try.underlying3) (at_one rfl (by kernel_rfl) (opens_i64 Try.underlying3)))))) (fun _ h => h)
structure S24 where
  f0 : List (S84)
  f1 : Int
def k24 : Kd S24 := Kd.iso (Kd.pair (Kd.slice 84 k84) (Kd.int .i64)) (fun x : S24 => (x.f0, x.f1))
theorem k24_spread {w : World} {x : S24} {cs : List Value} (h : k24.K w x cs) : ∃ Af0 cf0, cs = [.slice Af0 x.f0.length cf0, .int .i64 x.f1] ∧ x.f0.length ≤ cf0 ∧ Kd.C k84 w Af0 x.f0.length x.f0 := by
  obtain ⟨_, _, rfl, ⟨Af0, cf0, rfl, hcf0, hrf0⟩, rfl⟩ := h
  exact ⟨Af0, cf0, rfl, hcf0, hrf0⟩
def G24 (x : S24) : Prop := (x.f0.length ≤ maxLen ∧ ∀ y4 ∈ x.f0, G84 y4) ∧ I64 x.f1
theorem opens24 : Opens Try.prog 24 k24 G24 :=
  opens_imp (opens_iso (fun a => ⟨a.1, a.2⟩) (fun _ => rfl) (opens_struct Try.underlying24 (by kernel_rfl) (at_cons rfl (by kernel_rfl) (opens_slice Try.underlying22 (by kernel_rfl) opens84) (at_one rfl (by kernel_rfl) (opens_i64 Try.underlying3))))) (fun _ h => h)
end Go.Proofs.Ytdffkcbaijbhoaa.PFnExactSchedule
