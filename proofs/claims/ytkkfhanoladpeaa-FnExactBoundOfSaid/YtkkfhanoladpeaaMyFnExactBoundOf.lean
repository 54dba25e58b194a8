/- The pure statement of FnExactBoundOf: the program's BoundOf answers what the reference's answers, for every input. -/
import Derived.Test.YtkkfhanoladpeaaPFnExactBoundOfx0
import Derived.Test.YtkkfhanoladpeaaPFnExactBoundOfx1
import Derived.Test.YtkkfhanoladpeaaPFnExactBoundOfx2
import Derived.Test.YtkkfhanoladpeaaPFnExactBoundOfx3
import Derived.Test.YtkkfhanoladpeaaPFnExactBoundOfx4
import Derived.Test.YtkkfhanoladpeaaPFnExactBoundOfx5
import Derived.Test.YtkkfhanoladpeaaAid
import Derived.Test.YtkkfhanoladpeaaGFnExactBoundOf
namespace Go.Proofs.Ytkkfhanoladpeaa.PFnExactBoundOf
open Go.RowKit Go.Proofs.YtkkfhanoladpeaaW.PrintWords Go.Proofs.YtkkfhanoladpeaaW.PrintLast Go.Proofs.Ytkkfhanoladpeaa.Opn Go.Proofs.Ytkkfhanoladpeaa.Aid
set_option linter.unusedVariables false
set_option linter.unusedSimpArgs false

def PureOf : Prop := ∀ (a0_0 : Int) (a0_1 : Int) (a0_2 : Int) (a0_3 : Int) (a0_4 : Int) (a0_5 : Int) (a0_6 : Int) (a0_7 : Int) (a0_8 : Int) (a0_9 : Int) (a0_10 : Int) (a0_11 : Int) (a0_12 : Int) (a0_13 : Int) (a1_0 : Int) (a1_1 : Int) (a1_2 : Int) (a1_3 : Int) (a2 : Int), I64 a0_0 → I64 a0_1 → I64 a0_2 → I64 a0_3 → I64 a0_4 → I64 a0_5 → I64 a0_6 → I64 a0_7 → I64 a0_8 → I64 a0_9 → I64 a0_10 → I64 a0_11 → I64 a0_12 → I64 a0_13 → I64 a1_0 → I64 a1_1 → I64 a1_2 → I64 a1_3 → I64 a2 → ∃ k, laws_FnExactBoundOf.f k a0_0 a0_1 a0_2 a0_3 a0_4 a0_5 a0_6 a0_7 a0_8 a0_9 a0_10 a0_11 a0_12 a0_13 a1_0 a1_1 a1_2 a1_3 a2 = some true
theorem l01In_eq (a b c : Int) : spec_l01In.f a b c = some (decide (b ≤ a ∧ a ≤ c)) := by
  unfold spec_l01In.f; split <;> simp [*]
theorem in_eq (a b c : Int) : impl_in.f a b c = some (decide (b ≤ a ∧ a ≤ c)) := by
  unfold impl_in.f; split
  · simp_all
  · next h => simp; omega

theorem spec_TickOk_eq (a : Int) : spec_TickOk.f a = some (decide (0 ≤ a ∧ a ≤ 1000000000)) := by
  unfold spec_TickOk.f; rw [l01In_eq]; rfl
theorem impl_TickOk_eq (a : Int) : impl_TickOk.f a = some (decide (0 ≤ a ∧ a ≤ 1000000000)) := by
  unfold impl_TickOk.f; rw [in_eq]; rfl

def EnvFine (a b c d : Int) : Prop := (1 ≤ a ∧ a ≤ 20) ∧ (1 ≤ b ∧ b ≤ 20) ∧ (0 ≤ c ∧ c ≤ 100) ∧ (0 ≤ d ∧ d ≤ 400)
instance (a b c d : Int) : Decidable (EnvFine a b c d) := by unfold EnvFine; infer_instance
theorem spec_EnvOk_eq (a b c d : Int) : spec_EnvOk.f a b c d = some (decide (EnvFine a b c d)) := by
  unfold spec_EnvOk.f
  simp only [l01In_eq, Option.bind_some, decide_eq_true_eq, Bool.not_eq_true', Bool.not_eq_true, decide_eq_false_iff_not, beq_iff_eq, bne_iff_ne, ne_eq, Bool.false_eq_true, Bool.true_eq_false, eq_self_iff_true, if_true, if_false, reduceIte, not_true_eq_false, not_false_eq_true]
  repeat' split
  all_goals congr 1
  all_goals first | exact (decide_eq_false (by unfold EnvFine; omega)).symm | exact (decide_eq_true (by unfold EnvFine; omega)).symm | exact decide_eq_decide.mpr (by unfold EnvFine; omega)
theorem impl_EnvOk_eq (a b c d : Int) : impl_EnvOk.f a b c d = some (decide (EnvFine a b c d)) := by
  unfold impl_EnvOk.f
  simp only [in_eq, Option.bind_some, decide_eq_true_eq, Bool.not_eq_true', Bool.not_eq_true, decide_eq_false_iff_not, beq_iff_eq, bne_iff_ne, ne_eq, Bool.false_eq_true, Bool.true_eq_false, eq_self_iff_true, if_true, if_false, reduceIte, not_true_eq_false, not_false_eq_true]
  repeat' split
  all_goals congr 1
  all_goals first | exact (decide_eq_false (by unfold EnvFine; omega)).symm | exact (decide_eq_true (by unfold EnvFine; omega)).symm | exact decide_eq_decide.mpr (by unfold EnvFine; omega)

def Tk (a : Int) : Prop := 0 ≤ a ∧ a ≤ 1000000000
def CfgFine (c0 c1 c2 c3 c4 c5 c6 c7 c8 c9 c10 c11 c12 c13 : Int) : Prop :=
  (1 ≤ c1 ∧ c1 ≤ 12) ∧ (0 ≤ c0 ∧ c0 ≤ c1) ∧ (1 ≤ c2 ∧ c2 ≤ 1000000000) ∧ (0 ≤ c3 ∧ c3 ≤ 1000000000) ∧ (0 ≤ c4 ∧ c4 ≤ 1000000000) ∧ (0 ≤ c5 ∧ c5 ≤ 1000000000) ∧ (0 ≤ c6 ∧ c6 ≤ 1000000000) ∧ (1 ≤ c13 ∧ c13 ≤ 1000000000) ∧
  (1 ≤ c8 ∧ c8 ≤ 1000000) ∧ (1 ≤ c7 ∧ c7 ≤ c8) ∧ (0 ≤ c9 ∧ c9 ≤ 100) ∧ (1 ≤ c10 ∧ c10 ≤ 1000000) ∧ (1 ≤ c11 ∧ c11 ≤ 20) ∧ (1 ≤ c12 ∧ c12 ≤ 1000000)
instance (c0 c1 c2 c3 c4 c5 c6 c7 c8 c9 c10 c11 c12 c13 : Int) : Decidable (CfgFine c0 c1 c2 c3 c4 c5 c6 c7 c8 c9 c10 c11 c12 c13) := by unfold CfgFine; infer_instance
theorem spec_ConfigOk_ev (c0 c1 c2 c3 c4 c5 c6 c7 c8 c9 c10 c11 c12 c13 : Int) : Ev (fun k => spec_ConfigOk.f k c0 c1 c2 c3 c4 c5 c6 c7 c8 c9 c10 c11 c12 c13) (decide (CfgFine c0 c1 c2 c3 c4 c5 c6 c7 c8 c9 c10 c11 c12 c13)) := by
  refine sh 3 ?_
  simp only [spec_ConfigOk.f, spec_ConfigOk.j0, spec_ConfigOk.j1, l01In_eq, spec_TickOk_eq, Option.bind_some, decide_eq_true_eq, Bool.not_eq_true', Bool.not_eq_true, decide_eq_false_iff_not, beq_iff_eq, bne_iff_ne, ne_eq, Bool.false_eq_true, Bool.true_eq_false, eq_self_iff_true, if_true, if_false, reduceIte, not_true_eq_false, not_false_eq_true]
  repeat' (first | refine ite (fun _ => ?_) (fun _ => ?_) | refine ev ?_)
  all_goals first | exact (decide_eq_false (by unfold CfgFine; omega)).symm | exact (decide_eq_true (by unfold CfgFine; omega)).symm | exact decide_eq_decide.mpr (by unfold CfgFine; omega)
theorem impl_ConfigOk_ev (c0 c1 c2 c3 c4 c5 c6 c7 c8 c9 c10 c11 c12 c13 : Int) : Ev (fun k => impl_ConfigOk.f k c0 c1 c2 c3 c4 c5 c6 c7 c8 c9 c10 c11 c12 c13) (decide (CfgFine c0 c1 c2 c3 c4 c5 c6 c7 c8 c9 c10 c11 c12 c13)) := by
  refine sh 9 ?_
  have wz : wrap64 (0 + 1) = 1 := by unfold wrap64; omega
  have w1 : wrap64 (1 + 1) = 2 := by unfold wrap64; omega
  have w2 : wrap64 (2 + 1) = 3 := by unfold wrap64; omega
  have w3 : wrap64 (3 + 1) = 4 := by unfold wrap64; omega
  have w4 : wrap64 (4 + 1) = 5 := by unfold wrap64; omega
  have w5 : wrap64 (5 + 1) = 6 := by unfold wrap64; omega
  have r0 : rd [c2, c3, c4, c5, c6, c13] 0 = c2 := rfl
  have r1 : rd [c2, c3, c4, c5, c6, c13] 1 = c3 := rfl
  have r2 : rd [c2, c3, c4, c5, c6, c13] 2 = c4 := rfl
  have r3 : rd [c2, c3, c4, c5, c6, c13] 3 = c5 := rfl
  have r4 : rd [c2, c3, c4, c5, c6, c13] 4 = c6 := rfl
  have r5 : rd [c2, c3, c4, c5, c6, c13] 5 = c13 := rfl
  have hl : (([c2, c3, c4, c5, c6, c13] : List Int).length : Int) = 6 := rfl
  have d0 : (0 : Int) < 6 := by decide
  have d1 : (1 : Int) < 6 := by decide
  have d2 : (2 : Int) < 6 := by decide
  have d3 : (3 : Int) < 6 := by decide
  have d4 : (4 : Int) < 6 := by decide
  have d5 : (5 : Int) < 6 := by decide
  have e0 : (0 : Int) ≤ 0 := by decide
  have e1 : (0 : Int) ≤ 1 := by decide
  have e2 : (0 : Int) ≤ 2 := by decide
  have e3 : (0 : Int) ≤ 3 := by decide
  have e4 : (0 : Int) ≤ 4 := by decide
  have e5 : (0 : Int) ≤ 5 := by decide
  simp only [impl_ConfigOk.f, impl_ConfigOk.l0, impl_ConfigOk.j1, in_eq, impl_TickOk_eq, wz, w1, w2, w3, w4, w5, r0, r1, r2, r3, r4, r5, hl, d0, d1, d2, d3, d4, d5, e0, e1, e2, e3, e4, e5, Int.lt_irrefl, ge_iff_le, Option.bind_some, decide_eq_true_eq, Bool.not_eq_true', Bool.not_eq_true, decide_eq_false_iff_not, beq_iff_eq, bne_iff_ne, ne_eq, Bool.false_eq_true, Bool.true_eq_false, eq_self_iff_true, if_true, if_false, reduceIte, not_true_eq_false, not_false_eq_true]
  repeat' (first | refine ite (fun _ => ?_) (fun _ => ?_) | refine ev ?_)
  all_goals first | exact (decide_eq_false (by unfold CfgFine; omega)).symm | exact (decide_eq_true (by unfold CfgFine; omega)).symm | exact decide_eq_decide.mpr (by unfold CfgFine; omega)

theorem pure_holds : PureOf := by
  intro c0 c1 c2 c3 c4 c5 c6 c7 c8 c9 c10 c11 c12 c13 e0 e1 e2 e3 x _ _ _ _ _ _ _ _ _ _ _ _ _ _ _ _ _ _ _
  refine Ev.rounds (g := fun k => laws_FnExactBoundOf.f k c0 c1 c2 c3 c4 c5 c6 c7 c8 c9 c10 c11 c12 c13 e0 e1 e2 e3 x) ?_
  simp only [laws_FnExactBoundOf.f, laws_toConfig.f, laws_toEnv.f, Option.bind_some]
  have key : ∃ r, Ev (fun k => spec_BoundOf.f k c0 c1 c2 c3 c4 c5 c6 c7 c8 c9 c10 c11 c12 c13 e0 e1 e2 e3 x) r ∧ Ev (fun k => impl_BoundOf.f k c0 c1 c2 c3 c4 c5 c6 c7 c8 c9 c10 c11 c12 c13 e0 e1 e2 e3 x) r := by
    refine ⟨if CfgFine c0 c1 c2 c3 c4 c5 c6 c7 c8 c9 c10 c11 c12 c13 ∧ EnvFine e0 e1 e2 e3 ∧ 0 ≤ x ∧ x ≤ 60 then wrap64 ((wrap64 ((wrap64 (c8 + c12)) + e0)) + (wrap64 ((wrap64 (x + 1)) * (wrap64 (e1 + e0))))) else -1, ?_, ?_⟩
    · unfold spec_BoundOf.f
      refine bnd (spec_ConfigOk_ev _ _ _ _ _ _ _ _ _ _ _ _ _ _) ?_
      simp only [spec_EnvOk_eq, l01In_eq, Option.bind_some, decide_eq_true_eq, Bool.not_eq_true', Bool.not_eq_true, decide_eq_false_iff_not, beq_iff_eq, bne_iff_ne, ne_eq, Bool.false_eq_true, Bool.true_eq_false, eq_self_iff_true, if_true, if_false, reduceIte, not_true_eq_false, not_false_eq_true]
      repeat' (first | refine ite (fun _ => ?_) (fun _ => ?_) | refine ev ?_)
      all_goals simp [*]
    · unfold impl_BoundOf.f
      refine bnd (impl_ConfigOk_ev _ _ _ _ _ _ _ _ _ _ _ _ _ _) ?_
      simp only [impl_EnvOk_eq, in_eq, Option.bind_some, decide_eq_true_eq, Bool.not_eq_true', Bool.not_eq_true, decide_eq_false_iff_not, beq_iff_eq, bne_iff_ne, ne_eq, Bool.false_eq_true, Bool.true_eq_false, eq_self_iff_true, if_true, if_false, reduceIte, not_true_eq_false, not_false_eq_true]
      repeat' (first | refine ite (fun _ => ?_) (fun _ => ?_) | refine ev ?_)
      all_goals simp [*]
  obtain ⟨r, h1, h2⟩ := key
  refine bnd h1 (bnd h2 ?_)
  simp only [if_true]
  exact ev rfl

end Go.Proofs.Ytkkfhanoladpeaa.PFnExactBoundOf
