/- The law FnExactEnvOk of the given program holds for every input: the statement as given. No condition. -/
import Derived.Test.YtkkfhanoladpeaaRows
import Derived.Test.YtkkfhanoladpeaaPFnExactEnvOkx1
import Derived.Test.YtkkfhanoladpeaaGFnExactEnvOk
import Derived.Test.YtkkfhanoladpeaaMyFnExactEnvOk
import Derived.WalkKit
import Derived.ProofKit
import Derived.OpenShut
import Derived.ShutString
import Derived.ChangeOld
import Derived.Below
import Derived.SizedLaws
namespace Go.Proofs.Ytkkfhanoladpeaa.fnExactEnvOk
open Go.ChangeShapes Go.WideShapes Go.ChangeAt Go.RowKit Go.Proofs.YtkkfhanoladpeaaW.PrintWords Go.Proofs.Ytkkfhanoladpeaa.Opn Go.Proofs.Ytkkfhanoladpeaa.PFnExactEnvOk
open Go.ChangeMaps (open_string shut_string)
set_option linter.unusedVariables false
theorem own : ownKnob Try.prog.godebug = none := by kernel_rfl
theorem laidOut : laidOutB Try.prog = true := by kernel_rfl
set_option maxRecDepth 100000 in
theorem lifted (os : Os) (started : os.Started) (H : Type) (enc : TypeId × Value → H) :
    ReturnsInHanded {} Try.checked os 3 .any (Rows.fnExactEnvOkSpec.pre6 enc Try.prog Try.f3 Rows.fnExactEnvOkRow.domain false) (Rows.fnExactEnvOkSpec.post enc Try.prog Try.f3 false true false false) := by
  refine returnsInHanded_of_change_sized (C := Try.checked) own started (by kernel_rfl) Try.func3
    (ChangeSpec.witness6 (enc := enc) (C := Try.checked) false ⟨#[], #[.agg #[.int .i64 0, .int .i64 0, .int .i64 0, .int .i64 0]], []⟩ 12 (by kernel_rfl) (by kernel_rfl) (by kernel_rfl) (by kernel_rfl)) ?_
  intro W base args ds gs before hval0 hW hcnd hsz0 _
  have hval : ∀ (j : Nat) t v, Try.f3.params[j]? = some t → args[j]? = some v → Value.okWide Try.prog W .any base t v := hval0
  have hW' := hW
  obtain ⟨p, q, hA0, hV, rfl, hfz, hnd⟩ := hW
  have hA : DataW.TrodAll enc Try.prog W 0 (fun _ => true) true Try.f3.params.toList args.toList ds p := hA0
  rw [Try.params3] at hA hval
  obtain ⟨v0, vs0, d0, ds0, p0, q0, hargs, rfl, rfl, h0, r0⟩ := trodAll_cons hA
  obtain ⟨rfl, rfl, rfl⟩ := trodAll_nil r0
  obtain rfl : args = #[v0] := by cases args; simp_all
  obtain ⟨rfl, rfl⟩ := trodVars_none hV
  have k0 := h0
  have lt0 : ∀ x ∈ p0, x.block < W.heap.size := by obtain ⟨m, hm⟩ := k0; exact DataW.trod_lt m _ _ _ hm
  obtain ⟨cs0, rfl, _⟩ := okWide_struct Try.underlying23 (hval 0 23 v0 rfl rfl)
  obtain ⟨x0, K0, g0⟩ := opens_trod opens23 h0
  obtain ⟨cs0⟩ := cs0
  have K0' : k23.K W x0 cs0 := K0
  obtain rfl := k23_spread K0'
  clear hA0 hval0 hsz0
  have hk := pure_holds x0.f0 x0.f1 x0.f2 x0.f3 (g0.1) (g0.2.1) (g0.2.2.1) (g0.2.2.2)
  refine (laws_FnExactEnvOk.calls x0.f0 x0.f1 x0.f2 x0.f3 true W hk).mono fun e W' ⟨he, bel⟩ => ?_
  subst he
  exact ⟨_, rfl, _, _, _, [], _, [], hW', trodAll_mk1 (shut_bool Try.underlying4 _), (trodAll_cons_mk (Below.trod laidOut (by kernel_rfl) (of_decide_eq_true (by kernel_rfl)) k0 bel lt0) trodAll_mk0), rfl, bel.frame _, fun h => by cases h⟩
theorem over : Rows.fnExactEnvOkRow.holds Try.pinned (OpenSpec.ofChange Rows.fnExactEnvOkSpec) :=
  OpenClaim.holds_of_wide 3 Try.f3 rfl rfl rfl rfl rfl rfl rfl ⟨rfl, rfl, rfl, rfl, rfl⟩ rfl rfl rfl rfl rfl (by kernel_rfl) Try.func3 (by kernel_rfl)
    (of_decide_eq_true (by kernel_rfl)) (by unfold Func.isWrapper; first | (rw [if_pos (by decide +kernel)]; kernel_rfl) | (rw [if_neg (by decide +kernel)]; exact ⟨rfl, rfl⟩))
    (fun os started H enc _ => lifted os started H enc)
theorem proved : Rows.FnExactEnvOkSaid := over
#print axioms proved
end Go.Proofs.Ytkkfhanoladpeaa.fnExactEnvOk
namespace Go.Proofs.Ytkkfhanoladpeaa
/-- The row, under a short name, for the claim. -/
theorem fnExactEnvOk_holds : Rows.FnExactEnvOkSaid := fnExactEnvOk.proved
end Go.Proofs.Ytkkfhanoladpeaa
