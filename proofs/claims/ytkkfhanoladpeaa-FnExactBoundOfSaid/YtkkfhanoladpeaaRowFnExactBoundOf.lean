/- The law FnExactBoundOf of the given program holds for every input: the statement as given. No condition. -/
import Derived.Test.YtkkfhanoladpeaaRows
import Derived.Test.YtkkfhanoladpeaaPFnExactBoundOfx5
import Derived.Test.YtkkfhanoladpeaaGFnExactBoundOf
import Derived.Test.YtkkfhanoladpeaaMyFnExactBoundOf
import Derived.WalkKit
import Derived.ProofKit
import Derived.OpenShut
import Derived.ShutString
import Derived.ChangeOld
import Derived.Below
import Derived.SizedLaws
namespace Go.Proofs.Ytkkfhanoladpeaa.fnExactBoundOf
open Go.ChangeShapes Go.WideShapes Go.ChangeAt Go.RowKit Go.Proofs.YtkkfhanoladpeaaW.PrintWords Go.Proofs.Ytkkfhanoladpeaa.Opn Go.Proofs.Ytkkfhanoladpeaa.PFnExactBoundOf
open Go.ChangeMaps (open_string shut_string)
set_option linter.unusedVariables false
theorem own : ownKnob Try.prog.godebug = none := by kernel_rfl
theorem laidOut : laidOutB Try.prog = true := by kernel_rfl
set_option maxRecDepth 100000 in
theorem lifted (os : Os) (started : os.Started) (H : Type) (enc : TypeId × Value → H) :
    ReturnsInHanded {} Try.checked os 7 .any (Rows.fnExactBoundOfSpec.pre6 enc Try.prog Try.f7 Rows.fnExactBoundOfRow.domain false) (Rows.fnExactBoundOfSpec.post enc Try.prog Try.f7 false true false false) := by
  refine returnsInHanded_of_change_sized (C := Try.checked) own started (by kernel_rfl) Try.func7
    (ChangeSpec.witness6 (enc := enc) (C := Try.checked) false ⟨#[], #[.agg #[.int .i64 0, .int .i64 0, .int .i64 0, .int .i64 0, .int .i64 0, .int .i64 0, .int .i64 0, .int .i64 0, .int .i64 0, .int .i64 0, .int .i64 0, .int .i64 0, .int .i64 0, .int .i64 0], .agg #[.int .i64 0, .int .i64 0, .int .i64 0, .int .i64 0], .int .i64 0], []⟩ 12 (by kernel_rfl) (by kernel_rfl) (by kernel_rfl) (by kernel_rfl)) ?_
  intro W base args ds gs before hval0 hW hcnd hsz0 _
  have hval : ∀ (j : Nat) t v, Try.f7.params[j]? = some t → args[j]? = some v → Value.okWide Try.prog W .any base t v := hval0
  have hW' := hW
  obtain ⟨p, q, hA0, hV, rfl, hfz, hnd⟩ := hW
  have hA : DataW.TrodAll enc Try.prog W 0 (fun _ => true) true Try.f7.params.toList args.toList ds p := hA0
  rw [Try.params7] at hA hval
  obtain ⟨v0, vs0, d0, ds0, p0, q0, hargs, rfl, rfl, h0, r0⟩ := trodAll_cons hA
  obtain ⟨v1, vs1, d1, ds1, p1, q1, rfl, rfl, rfl, h1, r1⟩ := trodAll_cons r0
  obtain ⟨v2, vs2, d2, ds2, p2, q2, rfl, rfl, rfl, h2, r2⟩ := trodAll_cons r1
  obtain ⟨rfl, rfl, rfl⟩ := trodAll_nil r2
  obtain rfl : args = #[v0, v1, v2] := by cases args; simp_all
  obtain ⟨rfl, rfl⟩ := trodVars_none hV
  have k0 := h0
  have lt0 : ∀ x ∈ p0, x.block < W.heap.size := by obtain ⟨m, hm⟩ := k0; exact DataW.trod_lt m _ _ _ hm
  obtain ⟨cs0, rfl, _⟩ := okWide_struct Try.underlying42 (hval 0 42 v0 rfl rfl)
  obtain ⟨x0, K0, g0⟩ := opens_trod opens42 h0
  obtain ⟨cs0⟩ := cs0
  have K0' : k42.K W x0 cs0 := K0
  obtain rfl := k42_spread K0'
  have k1 := h1
  have lt1 : ∀ x ∈ p1, x.block < W.heap.size := by obtain ⟨m, hm⟩ := k1; exact DataW.trod_lt m _ _ _ hm
  obtain ⟨cs1, rfl, _⟩ := okWide_struct Try.underlying23 (hval 1 23 v1 rfl rfl)
  obtain ⟨x1, K1, g1⟩ := opens_trod opens23 h1
  obtain ⟨cs1⟩ := cs1
  have K1' : k23.K W x1 cs1 := K1
  obtain rfl := k23_spread K1'
  obtain ⟨a2, rfl, rfl, rfl, w2⟩ := open_int Try.underlying3 (hval 2 3 v2 rfl rfl) h2
  clear hA0 hval0 hsz0
  obtain ⟨k, hk⟩ := pure_holds x0.f0 x0.f1 x0.f2 x0.f3 x0.f4 x0.f5 x0.f6 x0.f7 x0.f8 x0.f9 x0.f10 x0.f11 x0.f12 x0.f13 x1.f0 x1.f1 x1.f2 x1.f3 a2 (g0.1) (g0.2.1) (g0.2.2.1) (g0.2.2.2.1) (g0.2.2.2.2.1) (g0.2.2.2.2.2.1) (g0.2.2.2.2.2.2.1) (g0.2.2.2.2.2.2.2.1) (g0.2.2.2.2.2.2.2.2.1) (g0.2.2.2.2.2.2.2.2.2.1) (g0.2.2.2.2.2.2.2.2.2.2.1) (g0.2.2.2.2.2.2.2.2.2.2.2.1) (g0.2.2.2.2.2.2.2.2.2.2.2.2.1) (g0.2.2.2.2.2.2.2.2.2.2.2.2.2) (g1.1) (g1.2.1) (g1.2.2.1) (g1.2.2.2) (wf64 w2)
  refine (laws_FnExactBoundOf.calls k x0.f0 x0.f1 x0.f2 x0.f3 x0.f4 x0.f5 x0.f6 x0.f7 x0.f8 x0.f9 x0.f10 x0.f11 x0.f12 x0.f13 x1.f0 x1.f1 x1.f2 x1.f3 a2 true W hk).mono fun e W' ⟨he, bel⟩ => ?_
  subst he
  exact ⟨_, rfl, _, _, _, [], _, [], hW', trodAll_mk1 (shut_bool Try.underlying4 _), (trodAll_cons_mk (Below.trod laidOut (by kernel_rfl) (of_decide_eq_true (by kernel_rfl)) k0 bel lt0) (trodAll_cons_mk (Below.trod laidOut (by kernel_rfl) (of_decide_eq_true (by kernel_rfl)) k1 bel lt1) (trodAll_cons_mk (shut_int Try.underlying3 w2) trodAll_mk0))), rfl, bel.frame _, fun h => by cases h⟩
theorem over : Rows.fnExactBoundOfRow.holds Try.pinned (OpenSpec.ofChange Rows.fnExactBoundOfSpec) :=
  OpenClaim.holds_of_wide 7 Try.f7 rfl rfl rfl rfl rfl rfl rfl ⟨rfl, rfl, rfl, rfl, rfl⟩ rfl rfl rfl rfl rfl (by kernel_rfl) Try.func7 (by kernel_rfl)
    (of_decide_eq_true (by kernel_rfl)) (by unfold Func.isWrapper; first | (rw [if_pos (by decide +kernel)]; kernel_rfl) | (rw [if_neg (by decide +kernel)]; exact ⟨rfl, rfl⟩))
    (fun os started H enc _ => lifted os started H enc)
theorem proved : Rows.FnExactBoundOfSaid := over
#print axioms proved
end Go.Proofs.Ytkkfhanoladpeaa.fnExactBoundOf
namespace Go.Proofs.Ytkkfhanoladpeaa
/-- The row, under a short name, for the claim. -/
theorem fnExactBoundOf_holds : Rows.FnExactBoundOfSaid := fnExactBoundOf.proved
end Go.Proofs.Ytkkfhanoladpeaa
