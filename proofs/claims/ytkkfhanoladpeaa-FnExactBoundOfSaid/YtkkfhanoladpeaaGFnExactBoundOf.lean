/- What the arguments of FnExactBoundOf read as: the ranges of their whole numbers, kind by kind. No condition. -/
import Derived.Test.YtkkfhanoladpeaaPFnExactBoundOfx0
import Derived.Test.YtkkfhanoladpeaaOpn
namespace Go.Proofs.Ytkkfhanoladpeaa.PFnExactBoundOf
open Go.RowKit Go.ChangeShapes Go.WideShapes Go.Proofs.YtkkfhanoladpeaaW.PrintWords Go.Proofs.Ytkkfhanoladpeaa.Opn
set_option linter.unusedVariables false
structure S42 where
  f0 : Int
  f1 : Int
  f2 : Int
  f3 : Int
  f4 : Int
  f5 : Int
  f6 : Int
  f7 : Int
  f8 : Int
  f9 : Int
  f10 : Int
  f11 : Int
  f12 : Int
  f13 : Int
def k42 : Kd S42 := Kd.iso (Kd.pair (Kd.int .i64) (Kd.pair (Kd.int .i64) (Kd.pair (Kd.int .i64) (Kd.pair (Kd.int .i64) (Kd.pair (Kd.int .i64) (Kd.pair (Kd.int .i64) (Kd.pair (Kd.int .i64) (Kd.pair (Kd.int .i64) (Kd.pair (Kd.int .i64) (Kd.pair (Kd.int .i64) (Kd.pair (Kd.int .i64) (Kd.pair (Kd.int .i64) (Kd.pair (Kd.int .i64) (Kd.int .i64)))))))))))))) (fun x : S42 => (x.f0, x.f1, x.f2, x.f3, x.f4, x.f5, x.f6, x.f7, x.f8, x.f9, x.f10, x.f11, x.f12, x.f13))
theorem k42_spread {w : World} {x : S42} {cs : List Value} (h : k42.K w x cs) : cs = [.int .i64 x.f0, .int .i64 x.f1, .int .i64 x.f2, .int .i64 x.f3, .int .i64 x.f4, .int .i64 x.f5, .int .i64 x.f6, .int .i64 x.f7, .int .i64 x.f8, .int .i64 x.f9, .int .i64 x.f10, .int .i64 x.f11, .int .i64 x.f12, .int .i64 x.f13] := by
  obtain ⟨_, _, rfl, rfl, ⟨_, _, rfl, rfl, ⟨_, _, rfl, rfl, ⟨_, _, rfl, rfl, ⟨_, _, rfl, rfl, ⟨_, _, rfl, rfl, ⟨_, _, rfl, rfl, ⟨_, _, rfl, rfl, ⟨_, _, rfl, rfl, ⟨_, _, rfl, rfl, ⟨_, _, rfl, rfl, ⟨_, _, rfl, rfl, ⟨_, _, rfl, rfl, rfl⟩⟩⟩⟩⟩⟩⟩⟩⟩⟩⟩⟩⟩ := h
  exact rfl
def G42 (x : S42) : Prop := I64 x.f0 ∧ I64 x.f1 ∧ I64 x.f2 ∧ I64 x.f3 ∧ I64 x.f4 ∧ I64 x.f5 ∧ I64 x.f6 ∧ I64 x.f7 ∧ I64 x.f8 ∧ I64 x.f9 ∧ I64 x.f10 ∧ I64 x.f11 ∧ I64 x.f12 ∧ I64 x.f13
theorem opens42 : Opens Try.prog 42 k42 G42 :=
  opens_imp (opens_iso (fun a => ⟨a.1, a.2.1, a.2.2.1, a.2.2.2.1, a.2.2.2.2.1, a.2.2.2.2.2.1, a.2.2.2.2.2.2.1, a.2.2.2.2.2.2.2.1, a.2.2.2.2.2.2.2.2.1, a.2.2.2.2.2.2.2.2.2.1, a.2.2.2.2.2.2.2.2.2.2.1, a.2.2.2.2.2.2.2.2.2.2.2.1, a.2.2.2.2.2.2.2.2.2.2.2.2.1, a.2.2.2.2.2.2.2.2.2.2.2.2.2⟩) (fun _ => rfl) (opens_struct Try.underlying42 (by kernel_rfl) (at_cons rfl (by kernel_rfl) (opens_i64 Try.underlying3) (at_cons rfl (by kernel_rfl) (opens_i64 Try.underlying3) (at_cons rfl (by kernel_rfl) (opens_i64 Try.underlying3) (at_cons rfl (by kernel_rfl) (opens_i64 Try.underlying3) (at_cons rfl (by kernel_rfl) (opens_i64 Try.underlying3) (at_cons rfl (by kernel_rfl) (opens_i64 Try.underlying3) (at_cons rfl (by kernel_rfl) (opens_i64 Try.underlying3) (at_cons rfl (by kernel_rfl) (opens_i64 Try.underlying3) (at_cons rfl (by kernel_rfl) (opens_i64 Try.underlying3) (at_cons rfl (by kernel_rfl) (opens_i64 Try.underlying3) (at_cons rfl (by kernel_rfl) (opens_i64 Try.underlying3) (at_cons rfl (by kernel_rfl) (opens_i64 Try.underlying3) (at_cons rfl (by kernel_rfl) (opens_i64 Try.underlying3) (at_one rfl (by kernel_rfl) (opens_i64 Try.underlying3))))))))))))))))) (fun _ h => h)
structure S23 where
  f0 : Int
  f1 : Int
  f2 : Int
  f3 : Int
def k23 : Kd S23 := Kd.iso (Kd.pair (Kd.int .i64) (Kd.pair (Kd.int .i64) (Kd.pair (Kd.int .i64) (Kd.int .i64)))) (fun x : S23 => (x.f0, x.f1, x.f2, x.f3))
theorem k23_spread {w : World} {x : S23} {cs : List Value} (h : k23.K w x cs) : cs = [.int .i64 x.f0, .int .i64 x.f1, .int .i64 x.f2, .int .i64 x.f3] := by
  obtain ⟨_, _, rfl, rfl, ⟨_, _, rfl, rfl, ⟨_, _, rfl, rfl, rfl⟩⟩⟩ := h
  exact rfl
def G23 (x : S23) : Prop := I64 x.f0 ∧ I64 x.f1 ∧ I64 x.f2 ∧ I64 x.f3
theorem opens23 : Opens Try.prog 23 k23 G23 :=
  opens_imp (opens_iso (fun a => ⟨a.1, a.2.1, a.2.2.1, a.2.2.2⟩) (fun _ => rfl) (opens_struct Try.underlying23 (by kernel_rfl) (at_cons rfl (by kernel_rfl) (opens_i64 Try.underlying3) (at_cons rfl (by kernel_rfl) (opens_i64 Try.underlying3) (at_cons rfl (by kernel_rfl) (opens_i64 Try.underlying3) (at_one rfl (by kernel_rfl) (opens_i64 Try.underlying3))))))) (fun _ h => h)
end Go.Proofs.Ytkkfhanoladpeaa.PFnExactBoundOf
