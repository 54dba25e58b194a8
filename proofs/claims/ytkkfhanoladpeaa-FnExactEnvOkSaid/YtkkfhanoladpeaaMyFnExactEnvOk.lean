/- The pure statement of FnExactEnvOk: the program's EnvOk answers what the reference's answers, for every input. -/
import Derived.Test.YtkkfhanoladpeaaPFnExactEnvOkx0
import Derived.Test.YtkkfhanoladpeaaPFnExactEnvOkx1
import Derived.Test.YtkkfhanoladpeaaAid
import Derived.Test.YtkkfhanoladpeaaGFnExactEnvOk
namespace Go.Proofs.Ytkkfhanoladpeaa.PFnExactEnvOk
open Go.RowKit Go.Proofs.YtkkfhanoladpeaaW.PrintWords Go.Proofs.YtkkfhanoladpeaaW.PrintLast Go.Proofs.Ytkkfhanoladpeaa.Opn Go.Proofs.Ytkkfhanoladpeaa.Aid
set_option linter.unusedVariables false
set_option linter.unusedSimpArgs false

def PureOf : Prop := ∀ (a0_0 : Int) (a0_1 : Int) (a0_2 : Int) (a0_3 : Int), I64 a0_0 → I64 a0_1 → I64 a0_2 → I64 a0_3 → laws_FnExactEnvOk.f a0_0 a0_1 a0_2 a0_3 = some true
theorem l01In_eq (a b c : Int) : spec_l01In.f a b c = some (decide (b ≤ a ∧ a ≤ c)) := by
  unfold spec_l01In.f; split <;> simp [*]
theorem in_eq (a b c : Int) : impl_in.f a b c = some (decide (b ≤ a ∧ a ≤ c)) := by
  unfold impl_in.f; split
  · simp_all
  · next h => simp; omega

theorem envOk_eq (a b c d : Int) : ∃ r, spec_EnvOk.f a b c d = some r ∧ impl_EnvOk.f a b c d = some r := by
  unfold spec_EnvOk.f impl_EnvOk.f
  simp only [l01In_eq, in_eq, Option.bind_some]
  repeat' split
  all_goals exact ⟨_, rfl, rfl⟩
theorem pure_holds : PureOf := by
  intro a b c d _ _ _ _
  obtain ⟨r, h1, h2⟩ := envOk_eq a b c d
  unfold laws_FnExactEnvOk.f laws_toEnv.f
  simp only [Option.bind_some, h1, h2]
  simp

end Go.Proofs.Ytkkfhanoladpeaa.PFnExactEnvOk
