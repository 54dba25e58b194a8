/- What the arguments of FnExactNextExpiry read as: the ranges of their whole numbers, kind by kind. No condition. -/
import Derived.Test.YtnkpjpfmjkiidaaPFnExactNextExpiryx0
import Derived.Test.YtnkpjpfmjkiidaaZFnExactNextExpiry
namespace Go.Proofs.Ytnkpjpfmjkiidaa.PFnExactNextExpiry
open Go.RowKit Go.ChangeShapes Go.WideShapes Go.Proofs.YtnkpjpfmjkiidaaW.PrintWords Go.Proofs.Ytnkpjpfmjkiidaa.Opn
set_option linter.unusedVariables false
theorem k100_spread {w : World} {x : S100} {cs : List Value} (h : k100.K w x cs) : cs = [.int .i64 x.f0, .int .i64 x.f1, .int .i64 x.f2, .bool x.f3] := by
  obtain ⟨_, _, rfl, rfl, ⟨_, _, rfl, rfl, ⟨_, _, rfl, rfl, rfl⟩⟩⟩ := h
  exact rfl
def G100 (x : S100) : Prop := I64 x.f0 ∧ I64 x.f1 ∧ I64 x.f2 ∧ True
theorem opens100 : Opens Try.prog 100 k100 G100 :=
  opens_imp (opens_iso (fun a => ⟨a.1, a.2.1, a.2.2.1, a.2.2.2⟩) (fun _ => rfl) (opens_struct Try.underlying100 (by kernel_rfl) (at_cons rfl (by kernel_rfl) (opens_i64 Try.underlying3) (at_cons rfl (by kernel_rfl) (opens_i64 Try.underlying3) (at_cons rfl (by kernel_rfl) (opens_i64 Try.underlying3) (at_one rfl (by kernel_rfl) (opens_bool Try.underlying4))))))) (fun _ h => h)
structure S24 where
  f0 : List (S100)
  f1 : Int
  f2 : Int
  f3 : Int
  f4 : Int
def k24 : Kd S24 := Kd.iso (Kd.pair (Kd.slice 100 k100) (Kd.pair (Kd.int .i64) (Kd.pair (Kd.int .i64) (Kd.pair (Kd.int .i64) (Kd.int .i64))))) (fun x : S24 => (x.f0, x.f1, x.f2, x.f3, x.f4))
theorem k24_spread {w : World} {x : S24} {cs : List Value} (h : k24.K w x cs) : ∃ Af0 cf0, cs = [.slice Af0 x.f0.length cf0, .int .i64 x.f1, .int .i64 x.f2, .int .i64 x.f3, .int .i64 x.f4] ∧ x.f0.length ≤ cf0 ∧ Kd.C k100 w Af0 x.f0.length x.f0 := by
  obtain ⟨_, _, rfl, ⟨Af0, cf0, rfl, hcf0, hrf0⟩, ⟨_, _, rfl, rfl, ⟨_, _, rfl, rfl, ⟨_, _, rfl, rfl, rfl⟩⟩⟩⟩ := h
  exact ⟨Af0, cf0, rfl, hcf0, hrf0⟩
def G24 (x : S24) : Prop := (x.f0.length ≤ maxLen ∧ ∀ y4 ∈ x.f0, G100 y4) ∧ I64 x.f1 ∧ I64 x.f2 ∧ I64 x.f3 ∧ I64 x.f4
theorem opens24 : Opens Try.prog 24 k24 G24 :=
  opens_imp (opens_iso (fun a => ⟨a.1, a.2.1, a.2.2.1, a.2.2.2.1, a.2.2.2.2⟩) (fun _ => rfl) (opens_struct Try.underlying24 (by kernel_rfl) (at_cons rfl (by kernel_rfl) (opens_slice Try.underlying22 (by kernel_rfl) opens100) (at_cons rfl (by kernel_rfl) (opens_i64 Try.underlying3) (at_cons rfl (by kernel_rfl) (opens_i64 Try.underlying3) (at_cons rfl (by kernel_rfl) (opens_i64 Try.underlying3) (at_one rfl (by kernel_rfl) (opens_i64 Try.underlying3)))))))) (fun _ h => h)
theorem k120_spread {w : World} {x : S120} {cs : List Value} (h : k120.K w x cs) : cs = [.int .i64 x.f0, .int .i64 x.f1, .int .i64 x.f2] := by
  obtain ⟨_, _, rfl, rfl, ⟨_, _, rfl, rfl, rfl⟩⟩ := h
  exact rfl
def G120 (x : S120) : Prop := I64 x.f0 ∧ I64 x.f1 ∧ I64 x.f2
theorem opens120 : Opens Try.prog 120 k120 G120 :=
  opens_imp (opens_iso (fun a => ⟨a.1, a.2.1, a.2.2⟩) (fun _ => rfl) (opens_struct Try.underlying120 (by kernel_rfl) (at_cons rfl (by kernel_rfl) (opens_i64 Try.underlying3) (at_cons rfl (by kernel_rfl) (opens_i64 Try.underlying3) (at_one rfl (by kernel_rfl) (opens_i64 Try.underlying3)))))) (fun _ h => h)
structure S37 where
  f0 : List (S120)
  f1 : Int
def k37 : Kd S37 := Kd.iso (Kd.pair (Kd.slice 120 k120) (Kd.int .i64)) (fun x : S37 => (x.f0, x.f1))
theorem k37_spread {w : World} {x : S37} {cs : List Value} (h : k37.K w x cs) : ∃ Af0 cf0, cs = [.slice Af0 x.f0.length cf0, .int .i64 x.f1] ∧ x.f0.length ≤ cf0 ∧ Kd.C k120 w Af0 x.f0.length x.f0 := by
  obtain ⟨_, _, rfl, ⟨Af0, cf0, rfl, hcf0, hrf0⟩, rfl⟩ := h
  exact ⟨Af0, cf0, rfl, hcf0, hrf0⟩
def G37 (x : S37) : Prop := (x.f0.length ≤ maxLen ∧ ∀ y4 ∈ x.f0, G120 y4) ∧ I64 x.f1
theorem opens37 : Opens Try.prog 37 k37 G37 :=
  opens_imp (opens_iso (fun a => ⟨a.1, a.2⟩) (fun _ => rfl) (opens_struct Try.underlying37 (by kernel_rfl) (at_cons rfl (by kernel_rfl) (opens_slice Try.underlying35 (by kernel_rfl) opens120) (at_one rfl (by kernel_rfl) (opens_i64 Try.underlying3))))) (fun _ h => h)
structure S39 where
  f0 : S24
  f1 : S37
def k39 : Kd S39 := Kd.iso (Kd.pair k24 k37) (fun x : S39 => (x.f0, x.f1))
theorem k39_spread {w : World} {x : S39} {cs : List Value} (h : k39.K w x cs) : ∃ Af0_0 cf0_0 Af1_0 cf1_0, cs = [.slice Af0_0 x.f0.f0.length cf0_0, .int .i64 x.f0.f1, .int .i64 x.f0.f2, .int .i64 x.f0.f3, .int .i64 x.f0.f4, .slice Af1_0 x.f1.f0.length cf1_0, .int .i64 x.f1.f1] ∧ x.f0.f0.length ≤ cf0_0 ∧ Kd.C k100 w Af0_0 x.f0.f0.length x.f0.f0 ∧ x.f1.f0.length ≤ cf1_0 ∧ Kd.C k120 w Af1_0 x.f1.f0.length x.f1.f0 := by
  obtain ⟨_, _, rfl, ⟨_, _, rfl, ⟨Af0_0, cf0_0, rfl, hcf0_0, hrf0_0⟩, ⟨_, _, rfl, rfl, ⟨_, _, rfl, rfl, ⟨_, _, rfl, rfl, rfl⟩⟩⟩⟩, ⟨_, _, rfl, ⟨Af1_0, cf1_0, rfl, hcf1_0, hrf1_0⟩, rfl⟩⟩ := h
  exact ⟨Af0_0, cf0_0, Af1_0, cf1_0, rfl, hcf0_0, hrf0_0, hcf1_0, hrf1_0⟩
def G39 (x : S39) : Prop := G24 x.f0 ∧ G37 x.f1
theorem opens39 : Opens Try.prog 39 k39 G39 :=
  opens_imp (opens_iso (fun a => ⟨a.1, a.2⟩) (fun _ => rfl) (opens_struct Try.underlying39 (by kernel_rfl) (at_cons rfl (by kernel_rfl) opens24 (at_one rfl (by kernel_rfl) opens37)))) (fun _ h => h)
end Go.Proofs.Ytnkpjpfmjkiidaa.PFnExactNextExpiry
