/- The pure statement of FnExactEvenArrivals: the program's EvenArrivals answers what the reference's answers, for every input, in new memory. -/
import Derived.Test.YtkkfhanoladpeaaPFnExactEvenArrivalsx0
import Derived.Test.YtkkfhanoladpeaaPFnExactEvenArrivalsx1
import Derived.Test.YtkkfhanoladpeaaPFnExactEvenArrivalsx2
import Derived.Test.YtkkfhanoladpeaaAid
namespace Go.Proofs.Ytkkfhanoladpeaa.PFnExactEvenArrivals
open Go.RowKit Go.Proofs.YtkkfhanoladpeaaW.PrintWords Go.Proofs.YtkkfhanoladpeaaW.PrintLast Go.Proofs.Ytkkfhanoladpeaa.Opn Go.Proofs.Ytkkfhanoladpeaa.Aid
set_option linter.unusedVariables false
set_option linter.unusedSimpArgs false

theorem l01In_eq (a b c : Int) : spec_l01In.f a b c = some (decide (b ≤ a ∧ a ≤ c)) := by
  unfold spec_l01In.f; split <;> simp [*]
theorem in_eq (a b c : Int) : impl_in.f a b c = some (decide (b ≤ a ∧ a ≤ c)) := by
  unfold impl_in.f; split
  · simp_all
  · next h => simp; omega

theorem eqIntS_loop (l : List Int) (hl : l.length ≤ 9223372036854775807) : ∀ n, n ≤ l.length → Ev (fun k => laws_eqIntS.l0 k l l (n : Int)) true := by
  refine down ?_ ?_
  · refine sh 1 ?_
    simp only [laws_eqIntS.l0, Int.lt_irrefl, if_false]
    exact ev rfl
  · intro n hn ih
    refine sh 1 ?_
    simp only [laws_eqIntS.l0, lt_cast hn, Int.natCast_nonneg, if_true, wsucc hn hl]
    exact ih
theorem eqIntS_ev (l : List Int) (hl : l.length ≤ 9223372036854775807) : Ev (fun k => laws_eqIntS.f k l l) true := by
  unfold laws_eqIntS.f
  simp only [if_true]
  exact eqIntS_loop l hl 0 (Nat.zero_le _)

def mkInt (v : Int) : Int := v
theorem markIntS_loop (L : Nat) (hL : L ≤ 1099511627776) : ∀ n, n ≤ L → ∀ (acc : List Int) (v : Int), acc.length = L → 0 ≤ v → v + (L - n : Nat) ≤ 4611686018427387904 →
    Ev (fun k => laws_markIntS.l0 k acc v (n : Int)) (v + (L - n : Nat), acc.take n ++ mkG mkInt 1 v (L - n)) := by
  refine down ?_ ?_
  · intro acc v ha h0 hv
    refine sh 1 ?_
    simp only [laws_markIntS.l0, ha, Int.lt_irrefl, if_false]
    exact ev (by simp [mkG, ← ha])
  · intro n hn ih acc v ha h0 hv
    refine sh 1 ?_
    have hd : L - n = (L - (n + 1)) + 1 := by omega
    have e1 : wrap64 (v + 1) = v + 1 := wid (by omega) (by omega)
    simp only [laws_markIntS.l0, ha, lt_cast hn, Int.natCast_nonneg, if_true, wsucc hn (show L ≤ 9223372036854775807 by omega), Int.toNat_natCast, e1]
    refine eqv (ih (acc.set n (mkInt v)) (v + 1) (by simp [ha]) (by omega) (by omega)) ?_
    rw [take_set (by omega), hd, mkG]
    simp only [List.append_assoc, List.cons_append, List.nil_append, Prod.mk.injEq, and_true]
    omega
theorem heldIntS_loop (L : Nat) (l : List Int) (hl : l.length = L) (hL : L ≤ 1099511627776) : ∀ n, n ≤ L → ∀ v : Int, 0 ≤ v → v + (L - n : Nat) ≤ 4611686018427387904 → l.drop n = mkG mkInt 1 v (L - n) →
    Ev (fun k => laws_heldIntS.l0 k l v (n : Int)) (v + (L - n : Nat)) := by
  refine down ?_ ?_
  · intro v h0 hv _
    refine sh 1 ?_
    simp only [laws_heldIntS.l0, hl, Int.lt_irrefl, if_false]
    exact ev (by simp)
  · intro n hn ih v h0 hv hd
    refine sh 1 ?_
    have hd2 : L - n = (L - (n + 1)) + 1 := by omega
    rw [hd2, mkG] at hd
    obtain ⟨hn2, hg, hdr⟩ := get_of_drop hd
    have e1 : wrap64 (v + 1) = v + 1 := wid (by omega) (by omega)
    simp only [laws_heldIntS.l0, hl, lt_cast hn, Int.natCast_nonneg, if_true, wsucc hn (show L ≤ 9223372036854775807 by omega), rd_get hn2, hg, mkInt, e1]
    refine eqv (ih (v + 1) (by omega) (by omega) hdr) ?_
    omega
theorem markIntS_ev (l : List Int) (v : Int) (hl : l.length ≤ 1099511627776) (h0 : 0 ≤ v) (h1 : v ≤ 1152921504606846976) : Ev (fun k => laws_markIntS.f k l v) (v + l.length, mkG mkInt 1 v l.length) := by
  unfold laws_markIntS.f
  refine eqv (markIntS_loop l.length hl 0 (Nat.zero_le _) l v rfl h0 (by omega)) ?_
  simp
theorem heldIntS_ev (L : Nat) (v : Int) (hl : L ≤ 1099511627776) (h0 : 0 ≤ v) (h1 : v ≤ 1152921504606846976) : Ev (fun k => laws_heldIntS.f k (mkG mkInt 1 v L) v) (v + L) := by
  unfold laws_heldIntS.f
  refine eqv (heldIntS_loop L _ (mkG_length _ _ _ _) hl 0 (Nat.zero_le _) v h0 (by omega) (by simp)) ?_
  simp

/-- Is the list from place n on fine: each number in its range, none below the one ahead. -/
def ArrFrom (l : List Int) (n : Nat) : Prop := ∀ i, n ≤ i → i < l.length → (0 ≤ l.getD i 0 ∧ l.getD i 0 ≤ 1000) ∧ (0 < i → l.getD (i - 1) 0 ≤ l.getD i 0)
theorem arr_step {l : List Int} {n : Nat} (hn : n < l.length) : ArrFrom l n ↔ ((0 ≤ l.getD n 0 ∧ l.getD n 0 ≤ 1000) ∧ (0 < n → l.getD (n - 1) 0 ≤ l.getD n 0)) ∧ ArrFrom l (n + 1) := by
  constructor
  · intro h; exact ⟨h n (Nat.le_refl _) hn, fun i hi => h i (by omega)⟩
  · rintro ⟨h1, h2⟩ i hi hil
    by_cases e : i = n
    · subst e; exact h1
    · exact h2 i (by omega) hil
open Classical in
theorem spec_arr_loop (l : List Int) (hl : l.length ≤ 1048576) : ∀ n, n ≤ l.length → Ev (fun k => spec_ArrivalsOk.l0 k l (n : Int)) (decide (ArrFrom l n)) := by
  refine down ?_ ?_
  · refine sh 1 ?_
    simp only [spec_ArrivalsOk.l0, Int.lt_irrefl, if_false]
    exact ev (by rw [eq_comm, decide_eq_true_eq]; intro i h1 h2; omega)
  · intro n hn ih
    refine sh 1 ?_
    simp only [spec_ArrivalsOk.l0, lt_cast hn, Int.natCast_nonneg, if_true, wsucc hn (show l.length ≤ 9223372036854775807 by omega), l01In_eq, Option.bind_some, decide_eq_true_eq, rd_nat]
    have hs := arr_step hn
    refine ite (fun h1 => ?_) (fun h1 => ev ?_)
    · refine ite (fun h2 => ?_) (fun h2 => ?_)
      · simp only [wpred (show 0 < n by omega) hn (show l.length ≤ 9223372036854775807 by omega), Int.natCast_nonneg, if_true, lt_cast (show n - 1 < l.length by omega), rd_nat]
        refine ite (fun h3 => ev ?_) (fun h3 => eqv ih ?_)
        · rw [eq_comm, decide_eq_false_iff_not, hs]; intro h; have := h.1.2 (by omega); omega
        · exact decide_eq_decide.mpr ⟨fun h => hs.mpr ⟨⟨h1, fun _ => by omega⟩, h⟩, fun h => (hs.mp h).2⟩
      · exact eqv ih (decide_eq_decide.mpr ⟨fun h => hs.mpr ⟨⟨h1, fun _ => by omega⟩, h⟩, fun h => (hs.mp h).2⟩)
    · rw [eq_comm, decide_eq_false_iff_not, hs]; intro h; exact h1 h.1.1
open Classical in
theorem impl_arr_loop (l : List Int) (hl : l.length ≤ 1048576) : ∀ n, n ≤ l.length → Ev (fun k => impl_ArrivalsOk.l0 k l l (l.length : Int) (n : Int)) (decide (ArrFrom l n ∧ l.length ≤ 20)) := by
  refine down ?_ ?_
  · refine sh 1 ?_
    simp only [impl_ArrivalsOk.l0, Int.lt_irrefl, if_false]
    refine ev ?_
    congr 1
    have h1 : ArrFrom l l.length := by intro i h1 h2; omega
    simp [h1]; omega
  · intro n hn ih
    refine sh 1 ?_
    simp only [impl_ArrivalsOk.l0, lt_cast hn, Int.natCast_nonneg, if_true, wsucc hn (show l.length ≤ 9223372036854775807 by omega), in_eq, Option.bind_some, decide_eq_true_eq, rd_nat]
    have hs := arr_step hn
    refine ite (fun h1 => ?_) (fun h1 => ev ?_)
    · refine ite (fun h2 => ?_) (fun h2 => ?_)
      · simp only [wpred (show 0 < n by omega) hn (show l.length ≤ 9223372036854775807 by omega), Int.natCast_nonneg, if_true, lt_cast (show n - 1 < l.length by omega), rd_nat]
        refine ite (fun h3 => ev ?_) (fun h3 => eqv ih ?_)
        · rw [eq_comm, decide_eq_false_iff_not, hs]; intro h; have := h.1.1.2 (by omega); omega
        · exact decide_eq_decide.mpr ⟨fun h => ⟨hs.mpr ⟨⟨h1, fun _ => by omega⟩, h.1⟩, h.2⟩, fun h => ⟨(hs.mp h.1).2, h.2⟩⟩
      · exact eqv ih (decide_eq_decide.mpr ⟨fun h => ⟨hs.mpr ⟨⟨h1, fun _ => by omega⟩, h.1⟩, h.2⟩, fun h => ⟨(hs.mp h.1).2, h.2⟩⟩)
    · rw [eq_comm, decide_eq_false_iff_not, hs]; intro h; exact h1 h.1.1.1
open Classical in
theorem spec_arrivals (l : List Int) (hl : l.length ≤ 1048576) : Ev (fun k => spec_ArrivalsOk.f k l) (decide (ArrFrom l 0 ∧ l.length ≤ 20)) := by
  unfold spec_ArrivalsOk.f
  refine ite (fun h => ev ?_) (fun h => eqv (spec_arr_loop l hl 0 (Nat.zero_le _)) ?_)
  · rw [eq_comm, decide_eq_false_iff_not]; intro h1; omega
  · congr 1; simp; intro _; omega
open Classical in
theorem impl_arrivals (l : List Int) (hl : l.length ≤ 1048576) : Ev (fun k => impl_ArrivalsOk.f k l) (decide (ArrFrom l 0 ∧ l.length ≤ 20)) := by
  unfold impl_ArrivalsOk.f
  exact impl_arr_loop l hl 0 (Nat.zero_le _)

def evL (g : Int) (i : Int) (m : Nat) : List Int := mkG (fun v => wrap64 (v * g)) 1 i m
open Classical in
noncomputable def evR (l : List Int) : List Int × Bool := if ArrFrom l 0 ∧ l.length ≤ 20 then (l, true) else ([], false)
theorem spec_even_loop (g : Int) (N : Nat) (hN : N ≤ 20) : ∀ n, n ≤ N → ∀ acc : List Int, acc.length = n → Ev (fun k => spec_EvenArrivals.l0 k (N : Int) g acc (n : Int)) (evR (acc ++ evL g n (N - n))) := by
  classical
  refine down ?_ ?_
  · intro acc ha
    refine sh 1 ?_
    simp only [spec_EvenArrivals.l0, Int.lt_irrefl, if_false, Nat.sub_self, evL, mkG, List.append_nil]
    refine bnd (spec_arrivals acc (by omega)) ?_
    simp only [decide_eq_true_eq]
    unfold evR
    refine ite (fun h => ev (by rw [if_pos h])) (fun h => ev (by rw [if_neg h]))
  · intro n hn ih acc ha
    refine sh 1 ?_
    simp only [spec_EvenArrivals.l0, lt_cast hn, if_true, wsucc hn (show N ≤ 9223372036854775807 by omega), if_pos (show acc.length < 17592186044416 by omega)]
    refine eqv (ih (acc ++ [wrap64 (n * g)]) (by simp [ha])) ?_
    rw [show N - n = (N - (n + 1)) + 1 by omega]
    simp only [evL, mkG, List.append_assoc, List.cons_append, List.nil_append]
    rfl
theorem impl_even_loop (g : Int) (N : Nat) (hN : N ≤ 20) : ∀ n, n ≤ N → ∀ acc : List Int, acc.length = n → Ev (fun k => impl_EvenArrivals.l0 k g acc (N : Int) (n : Int)) (evR (acc ++ evL g n (N - n))) := by
  classical
  refine down ?_ ?_
  · intro acc ha
    refine sh 1 ?_
    simp only [impl_EvenArrivals.l0, Int.lt_irrefl, if_false, Nat.sub_self, evL, mkG, List.append_nil]
    refine bnd (impl_arrivals acc (by omega)) ?_
    simp only [decide_eq_true_eq]
    unfold evR
    refine ite (fun h => ev (by rw [if_pos h])) (fun h => ev (by rw [if_neg h]))
  · intro n hn ih acc ha
    refine sh 1 ?_
    simp only [impl_EvenArrivals.l0, lt_cast hn, if_true, wsucc hn (show N ≤ 9223372036854775807 by omega), if_pos (show acc.length < 17592186044416 by omega)]
    refine eqv (ih (acc ++ [wrap64 (n * g)]) (by simp [ha])) ?_
    rw [show N - n = (N - (n + 1)) + 1 by omega]
    simp only [evL, mkG, List.append_assoc, List.cons_append, List.nil_append]
    rfl
theorem evR_len (l : List Int) (h : l.length ≤ 20) : (evR l).1.length ≤ 20 := by unfold evR; split <;> simp <;> omega
theorem even_key (x g : Int) : ∃ r : List Int × Bool, r.1.length ≤ 20 ∧ Ev (fun k => spec_EvenArrivals.f k x g) r ∧ Ev (fun k => impl_EvenArrivals.f k x g) r := by
  by_cases h : (0 ≤ x ∧ x ≤ 20) ∧ 0 ≤ g ∧ g ≤ 1000
  · obtain ⟨N, rfl⟩ : ∃ N : Nat, x = N := ⟨x.toNat, by omega⟩
    have hN : N ≤ 20 := by omega
    refine ⟨evR ([] ++ evL g (0 : Nat) (N - 0)), evR_len _ (by simp [evL, mkG_length]; omega), ?_, ?_⟩
    · unfold spec_EvenArrivals.f
      refine sh 1 ?_
      simp only [l01In_eq, Option.bind_some, decide_eq_true_eq, if_pos h.1, spec_EvenArrivals.j0, decide_eq_true h.2, Bool.not_true, Bool.false_eq_true, if_false]
      exact spec_even_loop g N hN 0 (Nat.zero_le _) [] rfl
    · unfold impl_EvenArrivals.f
      refine sh 1 ?_
      simp only [in_eq, Option.bind_some, decide_eq_true_eq, if_pos h.1, impl_EvenArrivals.j0, decide_eq_true h.2, Bool.not_true, Bool.false_eq_true, if_false]
      exact impl_even_loop g N hN 0 (Nat.zero_le _) [] rfl
  · refine ⟨([], false), by simp, ?_, ?_⟩
    · unfold spec_EvenArrivals.f
      refine sh 1 ?_
      simp only [l01In_eq, Option.bind_some, decide_eq_true_eq, Bool.not_eq_true', Bool.not_eq_true, decide_eq_false_iff_not, beq_iff_eq, bne_iff_ne, ne_eq, Bool.false_eq_true, Bool.true_eq_false, eq_self_iff_true, if_true, if_false, reduceIte, not_true_eq_false, not_false_eq_true, spec_EvenArrivals.j0]
      repeat' (first | refine ite (fun _ => ?_) (fun _ => ?_) | refine ev ?_)
      · rfl
      · omega
      · rfl
    · unfold impl_EvenArrivals.f
      refine sh 1 ?_
      simp only [in_eq, Option.bind_some, decide_eq_true_eq, Bool.not_eq_true', Bool.not_eq_true, decide_eq_false_iff_not, beq_iff_eq, bne_iff_ne, ne_eq, Bool.false_eq_true, Bool.true_eq_false, eq_self_iff_true, if_true, if_false, reduceIte, not_true_eq_false, not_false_eq_true, impl_EvenArrivals.j0]
      repeat' (first | refine ite (fun _ => ?_) (fun _ => ?_) | refine ev ?_)
      · rfl
      · omega
      · rfl
theorem pure_holds : laws_FnExactEvenArrivals.Pure := by
  intro x g _ _
  refine Ev.rounds (g := fun k => laws_FnExactEvenArrivals.f k x g) ?_
  obtain ⟨⟨r, ok⟩, hr, h1, h2⟩ := even_key x g
  simp only at hr
  unfold laws_FnExactEvenArrivals.f
  refine bnd h1 (bnd h2 (bnd (eqIntS_ev r (by omega)) ?_))
  refine sh 1 ?_
  simp only [if_true, laws_FnExactEvenArrivals.j0, bne_self_eq_false, Bool.false_eq_true, if_false]
  refine bnd (markIntS_ev r 1 (by omega) (by omega) (by omega)) ?_
  simp only
  refine bnd (heldIntS_ev r.length 1 (by omega) (by omega) (by omega)) ?_
  simp only [if_neg (show ¬ (1 + (r.length : Int) < 0) by omega), if_true]
  refine bnd h2 (bnd (eqIntS_ev r (by omega)) ?_)
  refine sh 1 ?_
  simp only [if_true, laws_FnExactEvenArrivals.j1, bne_self_eq_false, Bool.false_eq_true, if_false]
  refine bnd (heldIntS_ev r.length 1 (by omega) (by omega) (by omega)) ?_
  simp only [if_neg (show ¬ (1 + (r.length : Int) < 0) by omega), if_true]
  exact ev rfl

end Go.Proofs.Ytkkfhanoladpeaa.PFnExactEvenArrivals
namespace Go.Proofs.Ytkkfhanoladpeaa.Pure
open Go.Proofs.Ytkkfhanoladpeaa.PFnExactEvenArrivals
theorem FnExactEvenArrivals : laws_FnExactEvenArrivals.Pure := Go.Proofs.Ytkkfhanoladpeaa.PFnExactEvenArrivals.pure_holds
end Go.Proofs.Ytkkfhanoladpeaa.Pure
