/- The law FnExactNextExpiry of the given program holds for every input: the statement as given. No condition. -/
import Derived.Test.YtnkpjpfmjkiidaaRows
import Derived.Test.YtnkpjpfmjkiidaaPFnExactNextExpiryx13
import Derived.Test.YtnkpjpfmjkiidaaGFnExactNextExpiry
import Derived.Test.YtnkpjpfmjkiidaaMyFnExactNextExpiry
import Derived.WalkKit
import Derived.ProofKit
import Derived.OpenShut
import Derived.ShutString
import Derived.ChangeOld
import Derived.Below
import Derived.SizedLaws
namespace Go.Proofs.Ytnkpjpfmjkiidaa.fnExactNextExpiry
open Go.ChangeShapes Go.WideShapes Go.ChangeAt Go.RowKit Go.Proofs.YtnkpjpfmjkiidaaW.PrintWords Go.Proofs.Ytnkpjpfmjkiidaa.Opn Go.Proofs.Ytnkpjpfmjkiidaa.PFnExactNextExpiry
open Go.ChangeMaps (open_string shut_string)
set_option linter.unusedVariables false
theorem own : ownKnob Try.prog.godebug = none := by kernel_rfl
theorem laidOut : laidOutB Try.prog = true := by kernel_rfl
set_option maxRecDepth 100000 in
theorem lifted (os : Os) (started : os.Started) (H : Type) (enc : TypeId × Value → H) :
    ReturnsInHanded {} Try.checked os 5 .any (Rows.fnExactNextExpirySpec.pre6 enc Try.prog Try.f5 Rows.fnExactNextExpiryRow.domain false) (Rows.fnExactNextExpirySpec.post enc Try.prog Try.f5 false true false false) := by
  refine returnsInHanded_of_change_sized (C := Try.checked) own started (by kernel_rfl) Try.func5
    (ChangeSpec.witness6 (enc := enc) (C := Try.checked) false ⟨#[], #[.agg #[.slice none 0 0, .int .i64 0, .int .i64 0, .int .i64 0, .int .i64 0, .slice none 0 0, .int .i64 0]], []⟩ 12 (by kernel_rfl) (by kernel_rfl) (by kernel_rfl) (by kernel_rfl)) ?_
  intro W base args ds gs before hval0 hW hcnd hsz0 _
  have hval : ∀ (j : Nat) t v, Try.f5.params[j]? = some t → args[j]? = some v → Value.okWide Try.prog W .any base t v := hval0
  have hW' := hW
  obtain ⟨p, q, hA0, hV, rfl, hfz, hnd⟩ := hW
  have hA : DataW.TrodAll enc Try.prog W 0 (fun _ => true) true Try.f5.params.toList args.toList ds p := hA0
  rw [Try.params5] at hA hval
  obtain ⟨v0, vs0, d0, ds0, p0, q0, hargs, rfl, rfl, h0, r0⟩ := trodAll_cons hA
  obtain ⟨rfl, rfl, rfl⟩ := trodAll_nil r0
  obtain rfl : args = #[v0] := by cases args; simp_all
  obtain ⟨rfl, rfl⟩ := trodVars_none hV
  have k0 := h0
  have lt0 : ∀ x ∈ p0, x.block < W.heap.size := by obtain ⟨m, hm⟩ := k0; exact DataW.trod_lt m _ _ _ hm
  obtain ⟨cs0, rfl, _⟩ := okWide_struct Try.underlying39 (hval 0 39 v0 rfl rfl)
  obtain ⟨x0, K0, g0⟩ := opens_trod opens39 h0
  obtain ⟨cs0⟩ := cs0
  have K0' : k39.K W x0 cs0 := K0
  obtain ⟨A0_0, c0_0, A0_5, c0_5, rfl, hc0_0, hr0_0, hc0_5, hr0_5⟩ := k39_spread K0'
  clear hA0 hval0 hsz0
  obtain ⟨k, hk⟩ := pure_holds x0.f0.f0 x0.f0.f1 x0.f0.f2 x0.f0.f3 x0.f0.f4 x0.f1.f0 x0.f1.f1 (g0.1.1) (g0.1.2.1) (g0.1.2.2.1) (g0.1.2.2.2.1) (g0.1.2.2.2.2) (g0.2.1) (g0.2.2)
  refine (laws_FnExactNextExpiry.calls k A0_0 c0_0 x0.f0.f0 x0.f0.f1 x0.f0.f2 x0.f0.f3 x0.f0.f4 A0_5 c0_5 x0.f1.f0 x0.f1.f1 true W hr0_0 hc0_0 hr0_5 hc0_5 hk).mono fun e W' ⟨he, bel⟩ => ?_
  subst he
  exact ⟨_, rfl, _, _, _, [], _, [], hW', trodAll_mk1 (shut_bool Try.underlying4 _), (trodAll_cons_mk (Below.trod laidOut (by kernel_rfl) (of_decide_eq_true (by kernel_rfl)) k0 bel lt0) trodAll_mk0), rfl, bel.frame _, fun h => by cases h⟩
theorem over : Rows.fnExactNextExpiryRow.holds Try.pinned (OpenSpec.ofChange Rows.fnExactNextExpirySpec) :=
  OpenClaim.holds_of_wide 5 Try.f5 rfl rfl rfl rfl rfl rfl rfl ⟨rfl, rfl, rfl, rfl, rfl⟩ rfl rfl rfl rfl rfl (by kernel_rfl) Try.func5 (by kernel_rfl)
    (of_decide_eq_true (by kernel_rfl)) (by unfold Func.isWrapper; first | (rw [if_pos (by decide +kernel)]; kernel_rfl) | (rw [if_neg (by decide +kernel)]; exact ⟨rfl, rfl⟩))
    (fun os started H enc _ => lifted os started H enc)
theorem proved : Rows.FnExactNextExpirySaid := over
#print axioms proved
end Go.Proofs.Ytnkpjpfmjkiidaa.fnExactNextExpiry
namespace Go.Proofs.Ytnkpjpfmjkiidaa
/-- The row, under a short name, for the claim. -/
theorem fnExactNextExpiry_holds : Rows.FnExactNextExpirySaid := fnExactNextExpiry.proved
end Go.Proofs.Ytnkpjpfmjkiidaa
