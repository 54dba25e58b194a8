/- The pure statement of FnExactArrivalsOk: the program's ArrivalsOk answers what the reference's answers, for every input. -/
import Derived.Test.YtkkfhanoladpeaaPFnExactArrivalsOkx0
import Derived.Test.YtkkfhanoladpeaaPFnExactArrivalsOkx1
import Derived.Test.YtkkfhanoladpeaaAid
import Derived.Test.YtkkfhanoladpeaaGFnExactArrivalsOk
namespace Go.Proofs.Ytkkfhanoladpeaa.PFnExactArrivalsOk
open Go.RowKit Go.Proofs.YtkkfhanoladpeaaW.PrintWords Go.Proofs.YtkkfhanoladpeaaW.PrintLast Go.Proofs.Ytkkfhanoladpeaa.Opn Go.Proofs.Ytkkfhanoladpeaa.Aid
set_option linter.unusedVariables false
set_option linter.unusedSimpArgs false

def PureOf : Prop := ∀ (l0 : List Int), (l0.length ≤ maxLen ∧ ∀ y2 ∈ l0, I64 y2) → ∃ k, laws_FnExactArrivalsOk.f k l0 = some true
theorem l01In_eq (a b c : Int) : spec_l01In.f a b c = some (decide (b ≤ a ∧ a ≤ c)) := by
  unfold spec_l01In.f; split <;> simp [*]
theorem in_eq (a b c : Int) : impl_in.f a b c = some (decide (b ≤ a ∧ a ≤ c)) := by
  unfold impl_in.f; split
  · simp_all
  · next h => simp; omega

theorem toIntS_loop (l : List Int) (hl : l.length ≤ 9223372036854775807) : ∀ n, n ≤ l.length → ∀ acc : List Int, acc.length = l.length →
    Ev (fun k => laws_toIntS.l0 k l acc (n : Int)) (acc.take n ++ l.drop n) := by
  refine down ?_ ?_
  · intro acc ha
    refine sh 1 ?_
    simp only [laws_toIntS.l0, Int.lt_irrefl, if_false]
    exact ev (by simp [← ha])
  · intro n hn ih acc ha
    refine sh 1 ?_
    simp only [laws_toIntS.l0, lt_cast hn, ha, Int.natCast_nonneg, if_true, wsucc hn hl, Int.toNat_natCast, rd_get hn]
    refine eqv (ih (acc.set n l[n]) (by simp [ha])) ?_
    rw [take_set (by omega), drop_cons hn, List.append_assoc]; rfl
theorem toIntS_ev (l : List Int) (hl : l.length ≤ 1048576) : Ev (fun k => laws_toIntS.f k l) l := by
  unfold laws_toIntS.f
  simp only [Int.natCast_nonneg, if_true, Int.toNat_natCast, if_pos (show l.length ≤ 35184372088832 by omega)]
  exact eqv (toIntS_loop l (by omega) 0 (Nat.zero_le _) (List.replicate l.length 0) (by simp)) (by simp)

theorem eqIntS_loop (l : List Int) (hl : l.length ≤ 9223372036854775807) : ∀ n, n ≤ l.length → Ev (fun k => laws_eqIntS.l0 k l l (n : Int)) true := by
  refine down ?_ ?_
  · refine sh 1 ?_
    simp only [laws_eqIntS.l0, Int.lt_irrefl, if_false]
    exact ev rfl
  · intro n hn ih
    refine sh 1 ?_
    simp only [laws_eqIntS.l0, lt_cast hn, Int.natCast_nonneg, if_true, wsucc hn hl]
    exact ih
theorem eqIntS_ev (l : List Int) (hl : l.length ≤ 9223372036854775807) : Ev (fun k => laws_eqIntS.f k l l) true := by
  unfold laws_eqIntS.f
  simp only [if_true]
  exact eqIntS_loop l hl 0 (Nat.zero_le _)

/-- Is the list from place n on fine: each number in its range, none below the one ahead. -/
def ArrFrom (l : List Int) (n : Nat) : Prop := ∀ i, n ≤ i → i < l.length → (0 ≤ l.getD i 0 ∧ l.getD i 0 ≤ 1000) ∧ (0 < i → l.getD (i - 1) 0 ≤ l.getD i 0)
theorem arr_step {l : List Int} {n : Nat} (hn : n < l.length) : ArrFrom l n ↔ ((0 ≤ l.getD n 0 ∧ l.getD n 0 ≤ 1000) ∧ (0 < n → l.getD (n - 1) 0 ≤ l.getD n 0)) ∧ ArrFrom l (n + 1) := by
  constructor
  · intro h; exact ⟨h n (Nat.le_refl _) hn, fun i hi => h i (by omega)⟩
  · rintro ⟨h1, h2⟩ i hi hil
    by_cases e : i = n
    · subst e; exact h1
    · exact h2 i (by omega) hil
open Classical in
theorem spec_arr_loop (l : List Int) (hl : l.length ≤ 1048576) : ∀ n, n ≤ l.length → Ev (fun k => spec_ArrivalsOk.l0 k l (n : Int)) (decide (ArrFrom l n)) := by
  refine down ?_ ?_
  · refine sh 1 ?_
    simp only [spec_ArrivalsOk.l0, Int.lt_irrefl, if_false]
    exact ev (by rw [eq_comm, decide_eq_true_eq]; intro i h1 h2; omega)
  · intro n hn ih
    refine sh 1 ?_
    simp only [spec_ArrivalsOk.l0, lt_cast hn, Int.natCast_nonneg, if_true, wsucc hn (show l.length ≤ 9223372036854775807 by omega), l01In_eq, Option.bind_some, decide_eq_true_eq, rd_nat]
    have hs := arr_step hn
    refine ite (fun h1 => ?_) (fun h1 => ev ?_)
    · refine ite (fun h2 => ?_) (fun h2 => ?_)
      · simp only [wpred (show 0 < n by omega) hn (show l.length ≤ 9223372036854775807 by omega), Int.natCast_nonneg, if_true, lt_cast (show n - 1 < l.length by omega), rd_nat]
        refine ite (fun h3 => ev ?_) (fun h3 => eqv ih ?_)
        · rw [eq_comm, decide_eq_false_iff_not, hs]; intro h; have := h.1.2 (by omega); omega
        · exact decide_eq_decide.mpr ⟨fun h => hs.mpr ⟨⟨h1, fun _ => by omega⟩, h⟩, fun h => (hs.mp h).2⟩
      · exact eqv ih (decide_eq_decide.mpr ⟨fun h => hs.mpr ⟨⟨h1, fun _ => by omega⟩, h⟩, fun h => (hs.mp h).2⟩)
    · rw [eq_comm, decide_eq_false_iff_not, hs]; intro h; exact h1 h.1.1
open Classical in
theorem impl_arr_loop (l : List Int) (hl : l.length ≤ 1048576) : ∀ n, n ≤ l.length → Ev (fun k => impl_ArrivalsOk.l0 k l l (l.length : Int) (n : Int)) (decide (ArrFrom l n ∧ l.length ≤ 20)) := by
  refine down ?_ ?_
  · refine sh 1 ?_
    simp only [impl_ArrivalsOk.l0, Int.lt_irrefl, if_false]
    refine ev ?_
    congr 1
    have h1 : ArrFrom l l.length := by intro i h1 h2; omega
    simp [h1]; omega
  · intro n hn ih
    refine sh 1 ?_
    simp only [impl_ArrivalsOk.l0, lt_cast hn, Int.natCast_nonneg, if_true, wsucc hn (show l.length ≤ 9223372036854775807 by omega), in_eq, Option.bind_some, decide_eq_true_eq, rd_nat]
    have hs := arr_step hn
    refine ite (fun h1 => ?_) (fun h1 => ev ?_)
    · refine ite (fun h2 => ?_) (fun h2 => ?_)
      · simp only [wpred (show 0 < n by omega) hn (show l.length ≤ 9223372036854775807 by omega), Int.natCast_nonneg, if_true, lt_cast (show n - 1 < l.length by omega), rd_nat]
        refine ite (fun h3 => ev ?_) (fun h3 => eqv ih ?_)
        · rw [eq_comm, decide_eq_false_iff_not, hs]; intro h; have := h.1.1.2 (by omega); omega
        · exact decide_eq_decide.mpr ⟨fun h => ⟨hs.mpr ⟨⟨h1, fun _ => by omega⟩, h.1⟩, h.2⟩, fun h => ⟨(hs.mp h.1).2, h.2⟩⟩
      · exact eqv ih (decide_eq_decide.mpr ⟨fun h => ⟨hs.mpr ⟨⟨h1, fun _ => by omega⟩, h.1⟩, h.2⟩, fun h => ⟨(hs.mp h.1).2, h.2⟩⟩)
    · rw [eq_comm, decide_eq_false_iff_not, hs]; intro h; exact h1 h.1.1.1
open Classical in
theorem spec_arrivals (l : List Int) (hl : l.length ≤ 1048576) : Ev (fun k => spec_ArrivalsOk.f k l) (decide (ArrFrom l 0 ∧ l.length ≤ 20)) := by
  unfold spec_ArrivalsOk.f
  refine ite (fun h => ev ?_) (fun h => eqv (spec_arr_loop l hl 0 (Nat.zero_le _)) ?_)
  · rw [eq_comm, decide_eq_false_iff_not]; intro h1; omega
  · congr 1; simp; intro _; omega
open Classical in
theorem impl_arrivals (l : List Int) (hl : l.length ≤ 1048576) : Ev (fun k => impl_ArrivalsOk.f k l) (decide (ArrFrom l 0 ∧ l.length ≤ 20)) := by
  unfold impl_ArrivalsOk.f
  exact impl_arr_loop l hl 0 (Nat.zero_le _)

theorem pure_holds : PureOf := by
  intro l hl
  refine Ev.rounds (g := fun k => laws_FnExactArrivalsOk.f k l) ?_
  unfold laws_FnExactArrivalsOk.f
  refine ite (fun h => ev rfl) (fun h => ?_)
  have hb : l.length ≤ 1048576 := by omega
  refine bnd (toIntS_ev l hb) (bnd (spec_arrivals l hb) (bnd (toIntS_ev l hb) (bnd (impl_arrivals l hb) ?_)))
  simp only [bne_self_eq_false, Bool.false_eq_true, if_false]
  refine bnd (toIntS_ev l hb) (bnd (eqIntS_ev l (by omega)) ?_)
  exact ev rfl

end Go.Proofs.Ytkkfhanoladpeaa.PFnExactArrivalsOk
