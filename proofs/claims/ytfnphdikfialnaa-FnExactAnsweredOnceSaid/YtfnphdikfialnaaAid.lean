/- Plain aid for the pure statements: answers that come with enough rounds (sequences of tests, calls, loops over lists), and small facts on lists and 64-bit sums. No condition beyond what each theorem states. -/
import Derived.Test.YtfnphdikfialnaaOpn
namespace Go.Proofs.Ytfnphdikfialnaa.Aid
open Go.RowKit Go.Proofs.YtfnphdikfialnaaW.PrintWords Go.Proofs.Ytfnphdikfialnaa.Opn
set_option linter.unusedVariables false

section
variable {α β : Type} {f g : Nat → Option α} {r : α}
theorem sh (c : Nat) (h : Ev (fun k => g (k + c)) r) : Ev g r := by
  obtain ⟨K, hK⟩ := h
  refine ⟨K + c, fun k hk => ?_⟩
  have h1 : g (k - c + c) = some r := hK (k - c) (by omega)
  rwa [show k - c + c = k by omega] at h1
theorem up (c : Nat) (h : Ev g r) : Ev (fun k => g (k + c)) r := by
  obtain ⟨K, hK⟩ := h
  exact ⟨K, fun k hk => hK _ (by omega)⟩
theorem ite {c : Prop} [Decidable c] (h1 : c → Ev f r) (h2 : ¬ c → Ev g r) : Ev (fun k => if c then f k else g k) r := by
  by_cases h : c
  · simp only [h, if_true]; exact h1 h
  · simp only [h, if_false]; exact h2 h
theorem ev {a : α} (h : a = r) : Ev (fun _ => some a) r := by subst h; exact Ev.now _
theorem bnd {h : Nat → Option β} {b : β} {F : Nat → β → Option α} (h1 : Ev h b) (h2 : Ev (fun n => F n b) r) : Ev (fun n => (h n).bind (F n)) r := Ev.bind h1 h2
theorem ofk {k : Nat} (h : Ev g r) : ∃ k, g k = some r := Ev.rounds h
theorem eqv {a b : α} (h : Ev g a) (e : a = b) : Ev g b := e ▸ h
end
/-- A loop that counts up to L: from its end down to its beginning. -/
theorem down {L : Nat} {P : Nat → Prop} (hend : P L) (hstep : ∀ n, n < L → P (n + 1) → P n) : ∀ n, n ≤ L → P n := by
  have key : ∀ d n, n + d = L → P n := by
    intro d
    induction d with
    | zero => intro n hn; obtain rfl : n = L := by omega
              exact hend
    | succ d ih => intro n hn; exact hstep n (by omega) (ih (n + 1) (by omega))
  intro n hn
  exact key (L - n) n (by omega)

theorem wsucc {n L : Nat} (h : n < L) (hL : L ≤ 9223372036854775807) : wrap64 ((n : Int) + 1) = ((n + 1 : Nat) : Int) := by unfold wrap64; omega
theorem wpred {n L : Nat} (h0 : 0 < n) (h : n < L) (hL : L ≤ 9223372036854775807) : wrap64 ((n : Int) - 1) = ((n - 1 : Nat) : Int) := by unfold wrap64; omega
theorem wid {x : Int} (h0 : -9223372036854775808 ≤ x) (h1 : x ≤ 9223372036854775807) : wrap64 x = x := by unfold wrap64; omega
theorem rd_nat (l : List Int) (n : Nat) : rd l (n : Int) = l.getD n 0 := by unfold rd; simp
theorem rd_get {l : List Int} {n : Nat} (h : n < l.length) : rd l (n : Int) = l[n] := by rw [rd_nat, List.getD_eq_getElem?_getD, List.getElem?_eq_getElem h]; rfl
theorem drop_cons {α : Type} {l : List α} {n : Nat} (h : n < l.length) : l.drop n = l[n] :: l.drop (n + 1) := List.drop_eq_getElem_cons h
theorem drop_end {α : Type} (l : List α) : l.drop l.length = [] := List.drop_length
theorem lt_cast {n L : Nat} (h : n < L) : (n : Int) < (L : Int) := by omega
theorem take_set {α : Type} {l : List α} {n : Nat} (h : n < l.length) (v : α) : (l.set n v).take (n + 1) = l.take n ++ [v] := by
  rw [List.take_succ_eq_append_getElem (by simpa using h), List.take_set_of_le (Nat.le_refl _)]
  simp
theorem getD_get {α : Type} {l : List α} {n : Nat} (z : α) (h : n < l.length) : l.getD n z = l[n] := by rw [List.getD_eq_getElem?_getD, List.getElem?_eq_getElem h]; rfl
/-- The marks: element after element, each written from the number v on, c numbers an element. -/
def mkG {α : Type} (f : Int → α) (c : Int) : Int → Nat → List α
  | _, 0 => []
  | v, n + 1 => f v :: mkG f c (v + c) n
theorem mkG_length {α : Type} (f : Int → α) (c : Int) : ∀ n v, (mkG f c v n).length = n
  | 0, _ => rfl
  | n + 1, v => by simp [mkG, mkG_length f c n]
theorem dT {p : Prop} [Decidable p] (h : p) : true = decide p := (decide_eq_true h).symm
theorem dF {p : Prop} [Decidable p] (h : ¬ p) : false = decide p := (decide_eq_false h).symm
theorem get_of_drop {α : Type} {l ys : List α} {x : α} {n : Nat} (h : l.drop n = x :: ys) : ∃ hn : n < l.length, l[n] = x ∧ l.drop (n + 1) = ys := by
  have hn : n < l.length := by
    rcases Nat.lt_or_ge n l.length with h1 | h1
    · exact h1
    · rw [List.drop_eq_nil_of_le h1] at h; cases h
  rw [drop_cons hn] at h
  injection h with h1 h2
  exact ⟨hn, h1, h2⟩
end Go.Proofs.Ytfnphdikfialnaa.Aid
