/- The pure statement of FnExactSchedule: the program's Schedule answers what the reference's answers, for every input, in new memory. -/
import Derived.Test.YtdffkcbaijbhoaaPFnExactSchedulex0
import Derived.Test.YtdffkcbaijbhoaaPFnExactSchedulex1
import Derived.Test.YtdffkcbaijbhoaaPFnExactSchedulex2
import Derived.Test.YtdffkcbaijbhoaaPFnExactSchedulex3
import Derived.Test.YtdffkcbaijbhoaaPFnExactSchedulex4
import Derived.Test.YtdffkcbaijbhoaaPFnExactSchedulex5
import Derived.Test.YtdffkcbaijbhoaaPFnExactSchedulex6
import Derived.Test.YtdffkcbaijbhoaaPFnExactSchedulex7
import Derived.Test.YtdffkcbaijbhoaaPFnExactSchedulex8
import Derived.Test.YtdffkcbaijbhoaaPFnExactSchedulex9
import Derived.Test.YtdffkcbaijbhoaaPFnExactSchedulex10
import Derived.Test.YtdffkcbaijbhoaaPFnExactSchedulex11
import Derived.Test.YtdffkcbaijbhoaaPFnExactSchedulex12
import Derived.Test.YtdffkcbaijbhoaaPFnExactSchedulex13
import Derived.Test.YtdffkcbaijbhoaaPFnExactSchedulex14
import Derived.Test.YtdffkcbaijbhoaaAid
import Derived.Test.YtdffkcbaijbhoaaGFnExactSchedule
namespace Go.Proofs.Ytdffkcbaijbhoaa.PFnExactSchedule
open Go.RowKit Go.Proofs.YtdffkcbaijbhoaaW.PrintWords Go.Proofs.YtdffkcbaijbhoaaW.PrintLast Go.Proofs.Ytdffkcbaijbhoaa.Opn Go.Proofs.Ytdffkcbaijbhoaa.Aid
set_option linter.unusedVariables false
set_option linter.unusedSimpArgs false

def PureOf : Prop := ∀ (l0_0 : List (S84)) (a0_1 : Int) (a1 : Int) (a2 : Int), (l0_0.length ≤ maxLen ∧ ∀ y4 ∈ l0_0, G84 y4) → I64 a0_1 → I64 a1 → I64 a2 → ∃ k, laws_FnExactSchedule.f k l0_0 a0_1 a1 a2 = some true
theorem rdB_Due {l : List S56} {n : Nat} (h : n < l.length) : rd_T56 l (n : Int) = l[n] := by unfold rd_T56; rw [Int.toNat_natCast]; exact getD_get _ h
theorem eqDue_self (x : S56) : laws_eqDue.f x.f0 x.f1 x.f2 x.f0 x.f1 x.f2 = some true := by unfold laws_eqDue.f; simp
theorem eqDueS_loop (l : List S56) (hl : l.length ≤ 9223372036854775807) : ∀ n, n ≤ l.length → Ev (fun k => laws_eqDueS.l0 k l l (n : Int)) true := by
  refine down ?_ ?_
  · refine sh 1 ?_
    simp only [laws_eqDueS.l0, Int.lt_irrefl, if_false]
    exact ev rfl
  · intro n hn ih
    refine sh 1 ?_
    simp only [laws_eqDueS.l0, lt_cast hn, Int.natCast_nonneg, if_true, wsucc hn hl, eqDue_self, Option.bind_some]
    exact ih
theorem eqDueS_ev (l : List S56) (hl : l.length ≤ 9223372036854775807) : Ev (fun k => laws_eqDueS.f k l l) true := by
  unfold laws_eqDueS.f
  simp only [if_true]
  exact eqDueS_loop l hl 0 (Nat.zero_le _)

theorem l01In_eq (a b c : Int) : spec_l01In.f a b c = some (decide (b ≤ a ∧ a ≤ c)) := by
  unfold spec_l01In.f; split <;> simp [*]
theorem in_eq (a b c : Int) : impl_in.f a b c = some (decide (b ≤ a ∧ a ≤ c)) := by
  unfold impl_in.f; split
  · simp_all
  · next h => simp; omega

theorem isId_eq (a : Int) : impl_isId.f a = some (decide (1 ≤ a ∧ a ≤ 1000000000)) := by unfold impl_isId.f; simp only [in_eq, Option.bind_some]

theorem spec_TickOk_eq (a : Int) : spec_TickOk.f a = some (decide (0 ≤ a ∧ a ≤ 1000000000)) := by
  unfold spec_TickOk.f; rw [l01In_eq]; rfl

theorem impl_TickOk_eq (a : Int) : impl_TickOk.f a = some (decide (0 ≤ a ∧ a ≤ 1000000000)) := by
  unfold impl_TickOk.f; rw [in_eq]; rfl

def Bef (x y : S56) : Prop := x.f0 < y.f0 ∨ (x.f0 = y.f0 ∧ x.f1 < y.f1)
theorem Before_eq (a b c d e f : Int) : spec_l03Before.f a b c d e f = some (decide (a < d ∨ (a = d ∧ b < e))) := by
  unfold spec_l03Before.f
  split
  · rename_i h; rw [decide_eq_true (Or.inl h)]
  · rename_i h
    split
    · rename_i h2; congr 1; exact decide_eq_decide.mpr ⟨fun x => .inr ⟨h2, x⟩, fun x => x.elim (fun y => absurd y h) (fun y => y.2)⟩
    · rename_i h2; rw [decide_eq_false (fun x => x.elim h (fun y => h2 y.1))]
def cmpI (a b : Int) : Int := if a < b then -1 else if a > b then 1 else 0
theorem Compare_eq (a b : Int) : cmp_Compare_int.f a b = some (cmpI a b) := by
  unfold cmp_Compare_int.f cmp_isNaN_int.f cmpI
  simp only [Option.bind_some, bne_self_eq_false, Bool.false_eq_true, if_false]
  split
  · rfl
  · split <;> rfl
theorem or2_ev (x y : Int) : Ev (fun k => cmp_Or_int.f k [x, y]) (if x = 0 then y else x) := by
  unfold cmp_Or_int.f
  refine sh 3 ?_
  have w1 : wrap64 (0 + 1) = 1 := wid (by omega) (by omega)
  have w2 : wrap64 (1 + 1) = 2 := wid (by omega) (by omega)
  have r0 : rd [x, y] 0 = x := rfl
  have r1 : rd [x, y] 1 = y := rfl
  have l2 : (([x, y] : List Int).length : Int) = 2 := rfl
  simp only [cmp_Or_int.l0, l2, w1, w2, r0, r1, if_pos (show (0 : Int) < 2 by omega), if_pos (show (1 : Int) < 2 by omega), if_neg (show ¬ (2 : Int) < 2 by omega), if_pos (show (0 : Int) ≤ 0 by omega), if_pos (show (0 : Int) ≤ 1 by omega)]
  refine ite (fun h => ite (fun h2 => ev ?_) (fun h2 => ev ?_)) (fun h => ev ?_)
  · rw [if_pos h, h2]
  · rw [if_pos h]
  · rw [if_neg h]
theorem Due_before_ev (a b c d e f : Int) : Ev (fun k => impl_Due_before.f k a b c d e f) (decide (a < d ∨ (a = d ∧ b < e))) := by
  unfold impl_Due_before.f
  refine bnd (show Ev (fun k => impl_Due_compare.f k a b c d e f) (if cmpI a d = 0 then cmpI b e else cmpI a d) from ?_) (ev ?_)
  · unfold impl_Due_compare.f
    simp only [Compare_eq, Option.bind_some]
    exact bnd (or2_ev _ _) (ev rfl)
  · refine decide_eq_decide.mpr ?_
    unfold cmpI
    repeat' (first | omega | split)
def gapH (h : List S56) (i j : Nat) : Prop := (rd_T56 h (j : Int)).f2 ≠ (rd_T56 h (i : Int)).f2 ∧ (rd_T56 h (j : Int)).f1 ≠ (rd_T56 h (i : Int)).f1
def goodH (h : List S56) (q : Int) (i : Nat) : Prop :=
  (0 ≤ (rd_T56 h (i : Int)).f0 ∧ (rd_T56 h (i : Int)).f0 ≤ 1000000000) ∧ (1 ≤ (rd_T56 h (i : Int)).f1 ∧ (rd_T56 h (i : Int)).f1 ≤ q) ∧ (1 ≤ (rd_T56 h (i : Int)).f2 ∧ (rd_T56 h (i : Int)).f2 ≤ 1000000000) ∧
    (0 < i → ¬ Bef (rd_T56 h (i : Int)) (rd_T56 h (((i - 1) / 2 : Nat) : Int))) ∧ ∀ j, j < i → gapH h i j
def HOk (h : List S56) (q : Int) : Prop := h.length ≤ 100 ∧ (0 ≤ q ∧ q ≤ 1000000000) ∧ ∀ i, i < h.length → goodH h q i
theorem half_eq {i : Nat} (h0 : 0 < i) (h1 : i ≤ 100) : wrap64 (Int.tdiv (wrap64 ((i : Int) - 1)) 2) = (((i - 1) / 2 : Nat) : Int) := by
  have e1 : wrap64 ((i : Int) - 1) = (i : Int) - 1 := wid (by omega) (by omega)
  rw [e1, Int.tdiv_eq_ediv_of_nonneg (by omega), wid (by omega) (by omega)]
  omega
theorem spec_gap_loop (h : List S56) (hl : h.length ≤ 100) (q : Int) (i : Nat) (hi : i < h.length) (w' : Bool) (hrest : Ev (fun k => spec_HeapOk.l0 k (wrap64 ((i : Int) + 1)) h q) w') : ∀ j, j ≤ i → ∀ w : Bool, (w = true ↔ (∀ j', j ≤ j' → j' < i → gapH h i j') ∧ w' = true) →
    Ev (fun k => spec_HeapOk.l1 k (i : Int) (j : Int) h q (rd_T56 h (i : Int)).f0 (rd_T56 h (i : Int)).f1 (rd_T56 h (i : Int)).f2) w := by
  refine down ?_ ?_
  · intro w hw
    refine sh 1 ?_
    simp only [spec_HeapOk.l1, Int.lt_irrefl, if_false]
    refine eqv hrest ?_
    rw [Bool.eq_iff_iff, hw]
    exact ⟨fun e => ⟨fun j' h1 h2 => by omega, e⟩, fun e => e.2⟩
  · intro j hj ih w hw
    have no : ¬ w = true → false = w := fun h => (Bool.eq_false_iff.2 h).symm
    refine sh 1 ?_
    simp only [spec_HeapOk.l1, lt_cast hj, Int.natCast_nonneg, if_true, if_pos (show (j : Int) < (h.length : Int) by omega), wsucc hj (show i ≤ 9223372036854775807 by omega)]
    refine ite (fun g => ev (no fun e => ((hw.1 e).1 j (Nat.le_refl _) hj).1 g)) (fun g => ite (fun g2 => ev (no fun e => ((hw.1 e).1 j (Nat.le_refl _) hj).2 g2)) (fun g2 => ?_))
    refine ih w (hw.trans ⟨fun e => ⟨fun j' h1 h2 => e.1 j' (by omega) h2, e.2⟩, fun e => ⟨fun j' h1 h2 => ?_, e.2⟩⟩)
    rcases Nat.lt_or_ge j j' with h3 | h3
    · exact e.1 j' h3 h2
    · obtain rfl : j = j' := by omega
      exact ⟨g, g2⟩
theorem impl_gap_loop (h : List S56) (hl : h.length ≤ 100) (q : Int) (i : Nat) (hi : i < h.length) (w' : Bool) (hrest : Ev (fun k => impl_HeapOk.l0 k h (h.length : Int) (wrap64 ((i : Int) + 1)) h q) w') : ∀ j, j ≤ i → ∀ w : Bool, (w = true ↔ (∀ j', j ≤ j' → j' < i → gapH h i j') ∧ w' = true) →
    Ev (fun k => impl_HeapOk.l1 k h (h.length : Int) (i : Int) (h.take i) (i : Int) (j : Int) h q (rd_T56 h (i : Int)).f0 (rd_T56 h (i : Int)).f1 (rd_T56 h (i : Int)).f2) w := by
  have htl : (h.take i).length = i := by rw [List.length_take]; omega
  refine down ?_ ?_
  · intro w hw
    refine sh 1 ?_
    simp only [impl_HeapOk.l1, Int.lt_irrefl, if_false]
    refine eqv hrest ?_
    rw [Bool.eq_iff_iff, hw]
    exact ⟨fun e => ⟨fun j' h1 h2 => by omega, e⟩, fun e => e.2⟩
  · intro j hj ih w hw
    have no : ¬ w = true → false = w := fun h => (Bool.eq_false_iff.2 h).symm
    have hrd : rd_T56 (h.take i) (j : Int) = rd_T56 h (j : Int) := by
      rw [rdB_Due (by omega), rdB_Due (show j < h.length by omega), List.getElem_take]
    refine sh 1 ?_
    simp only [impl_HeapOk.l1, lt_cast hj, Int.natCast_nonneg, if_true, htl, hrd, wsucc hj (show i ≤ 9223372036854775807 by omega)]
    refine ite (fun g => ev (no fun e => ((hw.1 e).1 j (Nat.le_refl _) hj).2 g)) (fun g => ite (fun g2 => ev (no fun e => ((hw.1 e).1 j (Nat.le_refl _) hj).1 g2)) (fun g2 => ?_))
    refine ih w (hw.trans ⟨fun e => ⟨fun j' h1 h2 => e.1 j' (by omega) h2, e.2⟩, fun e => ⟨fun j' h1 h2 => ?_, e.2⟩⟩)
    rcases Nat.lt_or_ge j j' with h3 | h3
    · exact e.1 j' h3 h2
    · obtain rfl : j = j' := by omega
      exact ⟨g2, g⟩
theorem spec_Heap_loop (h : List S56) (hl : h.length ≤ 100) (q : Int) : ∀ n, n ≤ h.length → ∀ w : Bool, (w = true ↔ ∀ i, n ≤ i → i < h.length → goodH h q i) → Ev (fun k => spec_HeapOk.l0 k (n : Int) h q) w := by
  refine down ?_ ?_
  · intro w hw
    refine sh 1 ?_
    simp only [spec_HeapOk.l0, Int.lt_irrefl, if_false]
    refine ev ?_
    rw [Bool.eq_iff_iff, hw]
    exact ⟨fun _ i h1 h2 => by omega, fun _ => rfl⟩
  · intro n hn ih w hw
    classical
    have hr := ih (decide (∀ i, n + 1 ≤ i → i < h.length → goodH h q i)) (by simp)
    rw [← wsucc hn (show h.length ≤ 9223372036854775807 by omega)] at hr
    have no : ¬ w = true → false = w := fun h => (Bool.eq_false_iff.2 h).symm
    have hbad : ¬ goodH h q n → false = w := fun hb => no fun e => hb (hw.1 e n (Nat.le_refl _) hn)
    have hgap := fun hg => spec_gap_loop h hl q n hn _ hr 0 (Nat.zero_le _) w (hw.trans hg)
    have hj2 : (goodH h q n ↔ ∀ j, j < n → gapH h n j) → Ev (fun k => spec_HeapOk.j2 k (n : Int) false h q (rd_T56 h (n : Int)).f0 (rd_T56 h (n : Int)).f1 (rd_T56 h (n : Int)).f2) w := by
      intro hgood
      refine sh 1 ?_
      simp only [spec_HeapOk.j2, Bool.false_eq_true, if_false]
      refine hgap ⟨fun e => ⟨fun j' _ h2 => hgood.1 (e n (Nat.le_refl _) hn) j' h2, decide_eq_true fun i h1 h2 => e i (by omega) h2⟩, fun e i h1 h2 => ?_⟩
      rcases Nat.lt_or_ge n i with h3 | h3
      · exact of_decide_eq_true e.2 i h3 h2
      · obtain rfl : n = i := by omega
        exact hgood.2 fun j hj => e.1 j (Nat.zero_le _) hj
    have hjb : ¬ goodH h q n → Ev (fun k => spec_HeapOk.j2 k (n : Int) true h q (rd_T56 h (n : Int)).f0 (rd_T56 h (n : Int)).f1 (rd_T56 h (n : Int)).f2) w := by
      intro hb
      refine sh 1 ?_
      simp only [spec_HeapOk.j2, if_true]
      exact ev (hbad hb)
    refine sh 1 ?_
    simp only [spec_HeapOk.l0, lt_cast hn, Int.natCast_nonneg, if_true, spec_TickOk_eq, l01In_eq, Before_eq, Option.bind_some, decide_eq_true_eq]
    refine ite (fun g1 => ite (fun g2 => ite (fun g3 => ite (fun g4 => ?_) (fun g4 => ?_)) (fun g3 => hjb fun e => g3 e.2.2.1)) (fun g2 => hjb fun e => g2 e.2.1)) (fun g1 => hjb fun e => g1 e.1)
    · have hn0 : 0 < n := by omega
      rw [half_eq hn0 (by omega)]
      have hh : (((n - 1) / 2 : Nat) : Int) < (h.length : Int) := by omega
      simp only [Int.natCast_nonneg, if_true, if_pos hh]
      by_cases hb : Bef (rd_T56 h (n : Int)) (rd_T56 h (((n - 1) / 2 : Nat) : Int))
      · have hb' := hb
        unfold Bef at hb'
        simp only [decide_eq_true hb']
        exact hjb fun e => e.2.2.2.1 hn0 hb
      · have hb' := hb
        unfold Bef at hb'
        simp only [decide_eq_false hb']
        exact hj2 ⟨fun e => e.2.2.2.2, fun e => ⟨g1, g2, g3, fun _ => hb, e⟩⟩
    · exact hj2 ⟨fun e => e.2.2.2.2, fun e => ⟨g1, g2, g3, fun h0 => by omega, e⟩⟩
theorem impl_Heap_loop (h : List S56) (hl : h.length ≤ 100) (q : Int) : ∀ n, n ≤ h.length → ∀ w : Bool, (w = true ↔ ∀ i, n ≤ i → i < h.length → goodH h q i) → Ev (fun k => impl_HeapOk.l0 k h (h.length : Int) (n : Int) h q) w := by
  refine down ?_ ?_
  · intro w hw
    refine sh 1 ?_
    simp only [impl_HeapOk.l0, Int.lt_irrefl, if_false]
    refine ev ?_
    rw [Bool.eq_iff_iff, hw]
    exact ⟨fun _ i h1 h2 => by omega, fun _ => rfl⟩
  · intro n hn ih w hw
    classical
    have hr := ih (decide (∀ i, n + 1 ≤ i → i < h.length → goodH h q i)) (by simp)
    rw [← wsucc hn (show h.length ≤ 9223372036854775807 by omega)] at hr
    have no : ¬ w = true → false = w := fun h => (Bool.eq_false_iff.2 h).symm
    have hbad : ¬ goodH h q n → false = w := fun hb => no fun e => hb (hw.1 e n (Nat.le_refl _) hn)
    have hgap := fun hg => impl_gap_loop h hl q n hn _ hr 0 (Nat.zero_le _) w (hw.trans hg)
    have htl : ((h.take n).length : Int) = (n : Int) := by rw [List.length_take]; omega
    have hj2 : (goodH h q n ↔ ∀ j, j < n → gapH h n j) → Ev (fun k => impl_HeapOk.j2 k (n : Int) h (h.length : Int) (n : Int) false h q (rd_T56 h (n : Int)).f0 (rd_T56 h (n : Int)).f1 (rd_T56 h (n : Int)).f2) w := by
      intro hgood
      refine sh 1 ?_
      simp only [impl_HeapOk.j2, Bool.false_eq_true, if_false, Int.natCast_nonneg, if_true, if_pos (show (n : Int) ≤ (h.length : Int) by omega), Option.bind_some, Int.toNat_natCast, htl]
      refine hgap ⟨fun e => ⟨fun j' _ h2 => hgood.1 (e n (Nat.le_refl _) hn) j' h2, decide_eq_true fun i h1 h2 => e i (by omega) h2⟩, fun e i h1 h2 => ?_⟩
      rcases Nat.lt_or_ge n i with h3 | h3
      · exact of_decide_eq_true e.2 i h3 h2
      · obtain rfl : n = i := by omega
        exact hgood.2 fun j hj => e.1 j (Nat.zero_le _) hj
    have hjb : ¬ goodH h q n → Ev (fun k => impl_HeapOk.j2 k (n : Int) h (h.length : Int) (n : Int) true h q (rd_T56 h (n : Int)).f0 (rd_T56 h (n : Int)).f1 (rd_T56 h (n : Int)).f2) w := by
      intro hb
      refine sh 1 ?_
      simp only [impl_HeapOk.j2, if_true]
      exact ev (hbad hb)
    refine sh 1 ?_
    simp only [impl_HeapOk.l0, lt_cast hn, Int.natCast_nonneg, if_true, impl_TickOk_eq, in_eq, isId_eq, Option.bind_some, decide_eq_true_eq]
    refine ite (fun g1 => ite (fun g2 => ite (fun g3 => ite (fun g4 => ?_) (fun g4 => ?_)) (fun g3 => hjb fun e => g3 e.2.2.1)) (fun g2 => hjb fun e => g2 e.2.1)) (fun g1 => hjb fun e => g1 e.1)
    · have hn0 : 0 < n := by omega
      rw [half_eq hn0 (by omega)]
      have hh : (((n - 1) / 2 : Nat) : Int) < (h.length : Int) := by omega
      simp only [Int.natCast_nonneg, if_true, if_pos hh]
      refine bnd (Due_before_ev _ _ _ _ _ _) ?_
      by_cases hb : Bef (rd_T56 h (n : Int)) (rd_T56 h (((n - 1) / 2 : Nat) : Int))
      · have hb' := hb
        unfold Bef at hb'
        simp only [decide_eq_true hb']
        exact hjb fun e => e.2.2.2.1 hn0 hb
      · have hb' := hb
        unfold Bef at hb'
        simp only [decide_eq_false hb']
        exact hj2 ⟨fun e => e.2.2.2.2, fun e => ⟨g1, g2, g3, fun _ => hb, e⟩⟩
    · exact hj2 ⟨fun e => e.2.2.2.2, fun e => ⟨g1, g2, g3, fun h0 => by omega, e⟩⟩
theorem spec_HeapOk_ev (h : List S56) (q : Int) (w : Bool) (hw : w = true ↔ HOk h q) : Ev (fun k => spec_HeapOk.f k h q) w := by
  unfold spec_HeapOk.f
  have no : ¬ w = true → false = w := fun h => (Bool.eq_false_iff.2 h).symm
  refine ite (fun g => ?_) (fun g => ?_)
  · refine sh 1 ?_
    simp only [spec_HeapOk.j0, if_true]
    exact ev (no fun e => by have := (hw.1 e).1; omega)
  · simp only [spec_TickOk_eq, Option.bind_some]
    refine sh 1 ?_
    by_cases hq : 0 ≤ q ∧ q ≤ 1000000000
    · simp only [spec_HeapOk.j0, decide_eq_true hq, Bool.not_true, Bool.false_eq_true, if_false]
      exact spec_Heap_loop h (by omega) q 0 (Nat.zero_le _) w (hw.trans ⟨fun e i _ h2 => e.2.2 i h2, fun e => ⟨by omega, hq, fun i h2 => e i (Nat.zero_le _) h2⟩⟩)
    · simp only [spec_HeapOk.j0, decide_eq_false hq, Bool.not_false, if_true]
      exact ev (no fun e => hq (hw.1 e).2.1)
theorem impl_HeapOk_ev (h : List S56) (q : Int) (w : Bool) (hw : w = true ↔ HOk h q) : Ev (fun k => impl_HeapOk.f k h q) w := by
  unfold impl_HeapOk.f
  have no : ¬ w = true → false = w := fun h => (Bool.eq_false_iff.2 h).symm
  refine ite (fun g => ?_) (fun g => ?_)
  · refine sh 1 ?_
    simp only [impl_HeapOk.j0, if_true]
    exact ev (no fun e => by have := (hw.1 e).1; omega)
  · simp only [impl_TickOk_eq, Option.bind_some]
    refine sh 1 ?_
    by_cases hq : 0 ≤ q ∧ q ≤ 1000000000
    · simp only [impl_HeapOk.j0, decide_eq_true hq, Bool.not_true, Bool.false_eq_true, if_false]
      exact impl_Heap_loop h (by omega) q 0 (Nat.zero_le _) w (hw.trans ⟨fun e i _ h2 => e.2.2 i h2, fun e => ⟨by omega, hq, fun i h2 => e i (Nat.zero_le _) h2⟩⟩)
    · simp only [impl_HeapOk.j0, decide_eq_false hq, Bool.not_false, if_true]
      exact ev (no fun e => hq (hw.1 e).2.1)

def findD (h : List S56) (x : Int) (n : Int) : Int := Go.Proofs.Ytdffkcbaijbhoaa.Giv.findI (fun d : S56 => d.f2 == x) h n
theorem Find_loop (h : List S56) (hl : h.length ≤ 100) (q x : Int) : ∀ n, n ≤ h.length → Ev (fun k => spec_l03Find.l0 k x (n : Int) h q) (findD (h.drop n) x (n : Int)) := by
  refine down ?_ ?_
  · refine sh 1 ?_
    simp only [spec_l03Find.l0, Int.lt_irrefl, if_false]
    exact ev (by simp [findD, Go.Proofs.Ytdffkcbaijbhoaa.Giv.findI])
  · intro n hn ih
    refine sh 1 ?_
    have hw := wsucc hn (show h.length ≤ 9223372036854775807 by omega)
    simp only [spec_l03Find.l0, lt_cast hn, Int.natCast_nonneg, if_true, rdB_Due hn, hw]
    rw [drop_cons hn]
    unfold findD at ih ⊢
    rw [Go.Proofs.Ytdffkcbaijbhoaa.Giv.findI]
    refine ite (fun g => ev ?_) (fun g => eqv ih ?_)
    · rw [if_pos (by simpa using g)]
    · rw [if_neg (by simpa using g)]
      congr 1
theorem Find_ev (h : List S56) (hl : h.length ≤ 100) (q x : Int) : Ev (fun k => spec_l03Find.f k h q x) (findD h x 0) := by
  unfold spec_l03Find.f
  exact Find_loop h hl q x 0 (Nat.zero_le _)
theorem place_eq (h : List S56) (q x : Int) : impl_Heap_place.f h q x = some (findD h x 0) := rfl

def swp (l : List S56) (i j : Nat) : List S56 := (l.set ((i : Nat) : Int).toNat (⟨(rd_T56 l (j : Int)).f0, (rd_T56 l (j : Int)).f1, (rd_T56 l (j : Int)).f2⟩ : S56)).set ((j : Nat) : Int).toNat (⟨(rd_T56 l (i : Int)).f0, (rd_T56 l (i : Int)).f1, (rd_T56 l (i : Int)).f2⟩ : S56)
theorem swp_length (l : List S56) (i j : Nat) : (swp l i j).length = l.length := by simp [swp]
theorem swap_eq (l : List S56) (q : Int) (i j : Nat) (hi : i < l.length) (hj : j < l.length) : impl_Heap_swap.f l q (i : Int) (j : Int) = some (swp l i j) := by
  unfold impl_Heap_swap.f
  simp only [Int.natCast_nonneg, if_true, lt_cast hi, lt_cast hj]
  rfl
theorem up_key (q : Int) : ∀ (b k : Nat) (l : List S56), k ≤ b → k < l.length → l.length ≤ 101 → ∃ r : List S56, r.length = l.length ∧ Ev (fun n => spec_l03Up.l0 n l (k : Int)) r ∧ Ev (fun n => impl_Heap_up.l0 n (k : Int) l q) r := by
  intro b
  induction b with
  | zero =>
    intro k l hb hk hl
    obtain rfl : k = 0 := by omega
    refine ⟨l, rfl, ?_, ?_⟩
    · refine sh 1 ?_
      simp only [spec_l03Up.l0, if_neg (show ¬ ((0 : Nat) : Int) > 0 by omega)]
      exact ev rfl
    · refine sh 1 ?_
      simp only [impl_Heap_up.l0, if_neg (show ¬ ((0 : Nat) : Int) > 0 by omega)]
      exact ev rfl
  | succ b ih =>
    intro k l hb hk hl
    by_cases h0 : k = 0
    · exact ih k l (by omega) hk hl
    · have h1 : ((k : Nat) : Int) > 0 := by omega
      have hp : (k - 1) / 2 < l.length := by omega
      have hh := half_eq (show 0 < k by omega) (show k ≤ 100 by omega)
      by_cases hbf : Bef (rd_T56 l (k : Int)) (rd_T56 l (((k - 1) / 2 : Nat) : Int))
      · obtain ⟨r, hr, e1, e2⟩ := ih ((k - 1) / 2) (swp l k ((k - 1) / 2)) (by omega) (by rw [swp_length]; omega) (by rw [swp_length]; omega)
        rw [swp_length] at hr
        refine ⟨r, hr, ?_, ?_⟩
        · refine sh 1 ?_
          simp only [spec_l03Up.l0, if_pos h1, Int.natCast_nonneg, if_true, lt_cast hk, hh, lt_cast hp, Before_eq, Option.bind_some]
          refine ite (fun _ => e1) (fun e => (e (decide_eq_true hbf)).elim)
        · refine sh 1 ?_
          simp only [impl_Heap_up.l0, if_pos h1, Int.natCast_nonneg, if_true, lt_cast hk, hh, lt_cast hp]
          refine bnd (Due_before_ev _ _ _ _ _ _) ?_
          refine ite (fun _ => ?_) (fun e => (e (decide_eq_true hbf)).elim)
          simp only [swap_eq l q k ((k - 1) / 2) hk hp, Option.bind_some]
          exact e2
      · refine ⟨l, rfl, ?_, ?_⟩
        · refine sh 1 ?_
          simp only [spec_l03Up.l0, if_pos h1, Int.natCast_nonneg, if_true, lt_cast hk, hh, lt_cast hp, Before_eq, Option.bind_some]
          refine ite (fun e => absurd (of_decide_eq_true e) hbf) (fun _ => ev rfl)
        · refine sh 1 ?_
          simp only [impl_Heap_up.l0, if_pos h1, Int.natCast_nonneg, if_true, lt_cast hk, hh, lt_cast hp]
          refine bnd (Due_before_ev _ _ _ _ _ _) ?_
          refine ite (fun e => absurd (of_decide_eq_true e) hbf) (fun _ => ev rfl)
section
variable {l : List S56} {q : Int} {k least i c : Nat} {cs : List Int} {r : List S56}
theorem down_skip (hcs : cs.length = 2) (hi : i < 2) (hc : rd cs (i : Int) = (c : Int)) (hn : ¬ c < l.length) (h : Ev (fun n => impl_Heap_down.l1 n (k : Int) (least : Int) cs 2 ((i + 1 : Nat) : Int) l q) r) : Ev (fun n => impl_Heap_down.l1 n (k : Int) (least : Int) cs 2 (i : Int) l q) r := by
  refine sh 1 ?_
  simp only [impl_Heap_down.l1, if_pos (show (i : Int) < 2 by omega), Int.natCast_nonneg, if_true, hcs, if_pos (show (i : Int) < ((2 : Nat) : Int) by omega), hc, if_neg (show ¬ (c : Int) < (l.length : Int) by omega), wsucc hi (show 2 ≤ 9223372036854775807 by omega)]
  exact h
theorem down_take (hcs : cs.length = 2) (hi : i < 2) (hc : rd cs (i : Int) = (c : Int)) (hn : c < l.length) (hle : least < l.length) (hb : Bef (rd_T56 l (c : Int)) (rd_T56 l (least : Int))) (h : Ev (fun n => impl_Heap_down.l1 n (k : Int) (c : Int) cs 2 ((i + 1 : Nat) : Int) l q) r) : Ev (fun n => impl_Heap_down.l1 n (k : Int) (least : Int) cs 2 (i : Int) l q) r := by
  refine sh 1 ?_
  simp only [impl_Heap_down.l1, if_pos (show (i : Int) < 2 by omega), Int.natCast_nonneg, if_true, hcs, if_pos (show (i : Int) < ((2 : Nat) : Int) by omega), hc, lt_cast hn, lt_cast hle, wsucc hi (show 2 ≤ 9223372036854775807 by omega)]
  refine bnd (Due_before_ev _ _ _ _ _ _) ?_
  exact ite (fun _ => h) (fun e => (e (decide_eq_true hb)).elim)
theorem down_keep (hcs : cs.length = 2) (hi : i < 2) (hc : rd cs (i : Int) = (c : Int)) (hn : c < l.length) (hle : least < l.length) (hb : ¬ Bef (rd_T56 l (c : Int)) (rd_T56 l (least : Int))) (h : Ev (fun n => impl_Heap_down.l1 n (k : Int) (least : Int) cs 2 ((i + 1 : Nat) : Int) l q) r) : Ev (fun n => impl_Heap_down.l1 n (k : Int) (least : Int) cs 2 (i : Int) l q) r := by
  refine sh 1 ?_
  simp only [impl_Heap_down.l1, if_pos (show (i : Int) < 2 by omega), Int.natCast_nonneg, if_true, hcs, if_pos (show (i : Int) < ((2 : Nat) : Int) by omega), hc, lt_cast hn, lt_cast hle, wsucc hi (show 2 ≤ 9223372036854775807 by omega)]
  refine bnd (Due_before_ev _ _ _ _ _ _) ?_
  exact ite (fun e => absurd (of_decide_eq_true e) hb) (fun _ => h)
theorem down_stop : Ev (fun n => impl_Heap_down.l1 n (k : Int) (k : Int) cs 2 ((2 : Nat) : Int) l q) l := by
  refine sh 1 ?_
  simp only [impl_Heap_down.l1, if_neg (show ¬ ((2 : Nat) : Int) < 2 by omega), if_true]
  exact ev rfl
theorem down_go (hk : k < l.length) (hle : least < l.length) (hne : least ≠ k) (h : Ev (fun n => impl_Heap_down.l0 n (least : Int) (swp l k least) q) r) : Ev (fun n => impl_Heap_down.l1 n (k : Int) (least : Int) cs 2 ((2 : Nat) : Int) l q) r := by
  refine sh 1 ?_
  simp only [impl_Heap_down.l1, if_neg (show ¬ ((2 : Nat) : Int) < 2 by omega), if_neg (show ¬ (least : Int) = (k : Int) by omega), swap_eq l q k least hk hle, Option.bind_some]
  exact h
end
theorem Bef_trans {x y z : S56} (h1 : Bef x y) (h2 : Bef y z) : Bef x z := by unfold Bef at *; omega
theorem Bef_not {x y z : S56} (h1 : ¬ Bef x y) (h2 : ¬ Bef y z) : ¬ Bef x z := by unfold Bef at *; omega
theorem down_key (q : Int) : ∀ (d k : Nat) (l : List S56), l.length - k ≤ d → k < l.length → l.length ≤ 101 → ∃ r : List S56, r.length = l.length ∧ Ev (fun n => spec_l03Down.l0 n l (k : Int)) r ∧ Ev (fun n => impl_Heap_down.l0 n (k : Int) l q) r := by
  intro d
  induction d with
  | zero => intro k l hd hk hl; omega
  | succ d ih =>
    intro k l hd hk hl
    have e0 : wrap64 (2 * (k : Int)) = ((2 * k : Nat) : Int) := (wid (by omega) (by omega)).trans (by omega)
    have e1 : wrap64 (((2 * k : Nat) : Int) + 1) = ((2 * k + 1 : Nat) : Int) := (wid (by omega) (by omega)).trans (by omega)
    have e2 : wrap64 (((2 * k : Nat) : Int) + 2) = ((2 * k + 2 : Nat) : Int) := (wid (by omega) (by omega)).trans (by omega)
    have e3 : wrap64 (((2 * k + 1 : Nat) : Int) + 1) = ((2 * k + 2 : Nat) : Int) := (wid (by omega) (by omega)).trans (by omega)
    have hcs : ([((2 * k + 1 : Nat) : Int), ((2 * k + 2 : Nat) : Int)] : List Int).length = 2 := rfl
    have r0 : rd [((2 * k + 1 : Nat) : Int), ((2 * k + 2 : Nat) : Int)] ((0 : Nat) : Int) = ((2 * k + 1 : Nat) : Int) := rfl
    have r1 : rd [((2 * k + 1 : Nat) : Int), ((2 * k + 2 : Nat) : Int)] ((1 : Nat) : Int) = ((2 * k + 2 : Nat) : Int) := rfl
    have start : ∀ r, Ev (fun n => impl_Heap_down.l1 n (k : Int) (k : Int) [((2 * k + 1 : Nat) : Int), ((2 * k + 2 : Nat) : Int)] 2 ((0 : Nat) : Int) l q) r → Ev (fun n => impl_Heap_down.l0 n (k : Int) l q) r := by
      intro r h
      refine sh 1 ?_
      simp only [impl_Heap_down.l0, e0, e1, e2, Option.bind_some, List.length_cons, List.length_nil]
      exact h
    -- the reference, behind its choice of a child
    have one : ∀ (c : Nat) (r : List S56), c = 2 * k + 1 → c < l.length → Bef (rd_T56 l (c : Int)) (rd_T56 l (k : Int)) → Ev (fun n => spec_l03Down.l0 n (swp l k c) (c : Int)) r → Ev (fun n => spec_l03Down.j1 n l (k : Int) ((2 * k + 1 : Nat) : Int) false) r := by
      rintro c r rfl hc hb h
      refine sh 1 ?_
      simp only [spec_l03Down.j1, Bool.false_eq_true, if_false, Int.natCast_nonneg, if_true, lt_cast hc, lt_cast hk, Before_eq, Option.bind_some]
      exact ite (fun _ => h) (fun e => (e (decide_eq_true hb)).elim)
    have oneN : ∀ c : Nat, c = 2 * k + 1 → c < l.length → ¬ Bef (rd_T56 l (c : Int)) (rd_T56 l (k : Int)) → Ev (fun n => spec_l03Down.j1 n l (k : Int) ((2 * k + 1 : Nat) : Int) false) l := by
      rintro c rfl hc hb
      refine sh 1 ?_
      simp only [spec_l03Down.j1, Bool.false_eq_true, if_false, Int.natCast_nonneg, if_true, lt_cast hc, lt_cast hk, Before_eq, Option.bind_some]
      exact ite (fun e => absurd (of_decide_eq_true e) hb) (fun _ => ev rfl)
    have two : ∀ (c : Nat) (r : List S56), c = 2 * k + 2 → c < l.length → Bef (rd_T56 l (c : Int)) (rd_T56 l (k : Int)) → Ev (fun n => spec_l03Down.l0 n (swp l k c) (c : Int)) r → Ev (fun n => spec_l03Down.j1 n l (k : Int) ((2 * k + 1 : Nat) : Int) true) r := by
      rintro c r rfl hc hb h
      refine sh 1 ?_
      simp only [spec_l03Down.j1, if_true, e3, Int.natCast_nonneg, lt_cast hc, lt_cast hk, Before_eq, Option.bind_some]
      exact ite (fun _ => h) (fun e => (e (decide_eq_true hb)).elim)
    have twoN : ∀ c : Nat, c = 2 * k + 2 → c < l.length → ¬ Bef (rd_T56 l (c : Int)) (rd_T56 l (k : Int)) → Ev (fun n => spec_l03Down.j1 n l (k : Int) ((2 * k + 1 : Nat) : Int) true) l := by
      rintro c rfl hc hb
      refine sh 1 ?_
      simp only [spec_l03Down.j1, if_true, e3, Int.natCast_nonneg, lt_cast hc, lt_cast hk, Before_eq, Option.bind_some]
      exact ite (fun e => absurd (of_decide_eq_true e) hb) (fun _ => ev rfl)
    have rc : ∀ c : Nat, k < c → c < l.length → ∃ r : List S56, r.length = l.length ∧ Ev (fun n => spec_l03Down.l0 n (swp l k c) (c : Int)) r ∧ Ev (fun n => impl_Heap_down.l0 n (c : Int) (swp l k c) q) r := by
      intro c h1 h2
      obtain ⟨r, hr, x1, x2⟩ := ih c (swp l k c) (by rw [swp_length]; omega) (by rw [swp_length]; omega) (by rw [swp_length]; omega)
      rw [swp_length] at hr
      exact ⟨r, hr, x1, x2⟩
    by_cases h1 : 2 * k + 1 < l.length
    · by_cases h2 : 2 * k + 2 < l.length
      · have sp : ∀ (b : Bool) (r : List S56), (b = true ↔ Bef (rd_T56 l ((2 * k + 2 : Nat) : Int)) (rd_T56 l ((2 * k + 1 : Nat) : Int))) → Ev (fun n => spec_l03Down.j1 n l (k : Int) ((2 * k + 1 : Nat) : Int) b) r → Ev (fun n => spec_l03Down.l0 n l (k : Int)) r := by
          intro b r hb h
          refine sh 1 ?_
          simp only [spec_l03Down.l0, e0, e1, e3, if_neg (show ¬ ((2 * k + 1 : Nat) : Int) ≥ (l.length : Int) by omega), lt_cast h2, lt_cast h1, Int.natCast_nonneg, if_true, Before_eq, Option.bind_some]
          have hd : decide ((rd_T56 l ((2 * k + 2 : Nat) : Int)).f0 < (rd_T56 l ((2 * k + 1 : Nat) : Int)).f0 ∨ ((rd_T56 l ((2 * k + 2 : Nat) : Int)).f0 = (rd_T56 l ((2 * k + 1 : Nat) : Int)).f0 ∧ (rd_T56 l ((2 * k + 2 : Nat) : Int)).f1 < (rd_T56 l ((2 * k + 1 : Nat) : Int)).f1)) = b := by
            rw [Bool.eq_iff_iff, decide_eq_true_eq, hb]; exact Iff.rfl
          rw [hd]
          exact h
        by_cases b1 : Bef (rd_T56 l ((2 * k + 1 : Nat) : Int)) (rd_T56 l (k : Int))
        · by_cases b2 : Bef (rd_T56 l ((2 * k + 2 : Nat) : Int)) (rd_T56 l ((2 * k + 1 : Nat) : Int))
          · obtain ⟨r, hr, x1, x2⟩ := rc (2 * k + 2) (by omega) h2
            exact ⟨r, hr, sp true r ⟨fun _ => b2, fun _ => rfl⟩ (two _ r rfl h2 (Bef_trans b2 b1) x1), start r (down_take hcs (by omega) r0 h1 hk b1 (down_take hcs (by omega) r1 h2 h1 b2 (down_go hk h2 (by omega) x2)))⟩
          · obtain ⟨r, hr, x1, x2⟩ := rc (2 * k + 1) (by omega) h1
            exact ⟨r, hr, sp false r ⟨fun e => (by cases e), fun e => absurd e b2⟩ (one _ r rfl h1 b1 x1), start r (down_take hcs (by omega) r0 h1 hk b1 (down_keep hcs (by omega) r1 h2 h1 b2 (down_go hk h1 (by omega) x2)))⟩
        · by_cases b3 : Bef (rd_T56 l ((2 * k + 2 : Nat) : Int)) (rd_T56 l (k : Int))
          · have b2 : Bef (rd_T56 l ((2 * k + 2 : Nat) : Int)) (rd_T56 l ((2 * k + 1 : Nat) : Int)) := Classical.byContradiction fun hn => Bef_not hn b1 b3
            obtain ⟨r, hr, x1, x2⟩ := rc (2 * k + 2) (by omega) h2
            exact ⟨r, hr, sp true r ⟨fun _ => b2, fun _ => rfl⟩ (two _ r rfl h2 b3 x1), start r (down_keep hcs (by omega) r0 h1 hk b1 (down_take hcs (by omega) r1 h2 hk b3 (down_go hk h2 (by omega) x2)))⟩
          · refine ⟨l, rfl, ?_, start l (down_keep hcs (by omega) r0 h1 hk b1 (down_keep hcs (by omega) r1 h2 hk b3 down_stop))⟩
            by_cases b2 : Bef (rd_T56 l ((2 * k + 2 : Nat) : Int)) (rd_T56 l ((2 * k + 1 : Nat) : Int))
            · exact sp true l ⟨fun _ => b2, fun _ => rfl⟩ (twoN _ rfl h2 b3)
            · exact sp false l ⟨fun e => (by cases e), fun e => absurd e b2⟩ (oneN _ rfl h1 b1)
      · have sp : ∀ r : List S56, Ev (fun n => spec_l03Down.j1 n l (k : Int) ((2 * k + 1 : Nat) : Int) false) r → Ev (fun n => spec_l03Down.l0 n l (k : Int)) r := by
          intro r h
          refine sh 1 ?_
          simp only [spec_l03Down.l0, e0, e1, e3, if_neg (show ¬ ((2 * k + 1 : Nat) : Int) ≥ (l.length : Int) by omega), if_neg (show ¬ ((2 * k + 2 : Nat) : Int) < (l.length : Int) by omega)]
          exact h
        by_cases b1 : Bef (rd_T56 l ((2 * k + 1 : Nat) : Int)) (rd_T56 l (k : Int))
        · obtain ⟨r, hr, x1, x2⟩ := rc (2 * k + 1) (by omega) h1
          exact ⟨r, hr, sp r (one _ r rfl h1 b1 x1), start r (down_take hcs (by omega) r0 h1 hk b1 (down_skip hcs (by omega) r1 h2 (down_go hk h1 (by omega) x2)))⟩
        · exact ⟨l, rfl, sp l (oneN _ rfl h1 b1), start l (down_keep hcs (by omega) r0 h1 hk b1 (down_skip hcs (by omega) r1 h2 down_stop))⟩
    · refine ⟨l, rfl, ?_, start l (down_skip hcs (by omega) r0 h1 (down_skip hcs (by omega) r1 (by omega) down_stop))⟩
      refine sh 1 ?_
      simp only [spec_l03Down.l0, e0, e1, if_pos (show ((2 * k + 1 : Nat) : Int) ≥ (l.length : Int) by omega)]
      exact ev rfl
theorem l03Copy_s (k : Nat) (x4 : Int) (x : List S56) (x1 : Int) (y : List S56) (y1 : Int) : spec_l03Copy.l0 (k + 1) x4 x x1 y y1 = (if x4 < (x.length : Int) then (if 0 ≤ x4 then (if y.length < 5864062014805 then (spec_l03Copy.l0 k (wrap64 (x4 + 1)) x x1 (y ++ [(⟨(rd_T56 x x4).f0, (rd_T56 x x4).f1, (rd_T56 x x4).f2⟩ : S56)]) y1) else (none)) else (none)) else (some (y, y1))) := rfl
theorem l03Copy_loop (s : List S56) (p : Int) (hs : s.length ≤ 1048576) : ∀ n, n ≤ s.length → ∀ acc : List S56, acc = s.take n → Ev (fun k => spec_l03Copy.l0 k (n : Int) s p acc p) (s, p) := by
  refine down ?_ ?_
  · rintro acc rfl
    refine sh 1 ?_
    simp only [l03Copy_s, Int.lt_irrefl, if_false]
    exact ev (by simp)
  · rintro n hn ih acc rfl
    refine sh 1 ?_
    simp only [l03Copy_s, lt_cast hn, Int.natCast_nonneg, if_true, if_pos (show (s.take n).length < 5864062014805 by rw [List.length_take]; omega), wsucc hn (show s.length ≤ 9223372036854775807 by omega)]
    refine ih _ ?_
    rw [rdB_Due hn, List.take_succ_eq_append_getElem hn]
theorem l03Copy_ev (s : List S56) (p : Int) (hs : s.length ≤ 1048576) : Ev (fun k => spec_l03Copy.f k s p) (s, p) := by
  unfold spec_l03Copy.f
  exact l03Copy_loop s p hs 0 (Nat.zero_le _) [] (by simp)
theorem ownHeap_eq (s : List S56) (p : Int) (hs : s.length ≤ 1048576) : impl_ownHeap.f s p = some (s, p) := by
  unfold impl_ownHeap.f impl_Due_70.f
  simp only [Option.bind_some, List.length_nil, if_pos (show 0 + s.length < 5864062014805 by omega), List.nil_append]
theorem find_lt {α : Type} (p : α → Bool) : ∀ (l : List α) (i : Int), 0 ≤ i → ¬ Go.Proofs.Ytdffkcbaijbhoaa.Giv.findI p l i < 0 → ∃ n : Nat, n < l.length ∧ Go.Proofs.Ytdffkcbaijbhoaa.Giv.findI p l i = i + n
  | [], i, _, h => by exfalso; apply h; show (-1 : Int) < 0; decide
  | x :: l, i, hi, h => by
    rw [Go.Proofs.Ytdffkcbaijbhoaa.Giv.findI] at h ⊢
    by_cases hx : p x = true
    · rw [if_pos hx]; exact ⟨0, by simp, by simp⟩
    · rw [if_neg hx] at h ⊢
      obtain ⟨n, hn, e⟩ := find_lt p l (i + 1) (by omega) h
      exact ⟨n + 1, by simpa using hn, by rw [e]; omega⟩

theorem find_none2 (h : List S56) (x : Int) : (findD h x 0 < 0 ∧ findD h x 0 = -1) ∨ ∃ n : Nat, n < h.length ∧ findD h x 0 = (n : Int) := by
  by_cases hf : findD h x 0 < 0
  · refine .inl ⟨hf, ?_⟩
    have key : ∀ (l : List S56) (i : Int), 0 ≤ i → Go.Proofs.Ytdffkcbaijbhoaa.Giv.findI (fun d : S56 => d.f2 == x) l i < 0 → Go.Proofs.Ytdffkcbaijbhoaa.Giv.findI (fun d : S56 => d.f2 == x) l i = -1 := by
      intro l
      induction l with
      | nil => intro i _ _; rfl
      | cons y l ih =>
        intro i hi h2
        rw [Go.Proofs.Ytdffkcbaijbhoaa.Giv.findI] at h2 ⊢
        split at h2
        · omega
        · rename_i hn; rw [if_neg hn]; exact ih (i + 1) (by omega) h2
    exact key h 0 (by omega) hf
  · obtain ⟨n, hn, he⟩ := find_lt (fun d : S56 => d.f2 == x) h 0 (by omega) hf
    exact .inr ⟨n, hn, by unfold findD; rw [he]; omega⟩
/-- An item taken out of a heap that is in order: what both take it out as. -/
theorem Cancel_yes (h : List S56) (g x : Int) (hk : HOk h g) : ∃ r : List S56, ∃ b : Bool, r.length ≤ h.length ∧ Ev (fun k => spec_CancelDue.f k h g x) (r, g, b) ∧
    ((findD h x 0 < 0 ∧ r = h) ∨ (¬ findD h x 0 < 0 ∧ Ev (fun k => impl_Heap_remove.f k h g (findD h x 0)) r)) := by
  have h100 := hk.1
  have hl : h.length ≤ 1048576 := by omega
  have c1 := l03Copy_ev h g hl
  have q1 := spec_HeapOk_ev h g true (by simp [hk])
  have f1 := Find_ev h hk.1 g x
  unfold spec_CancelDue.f
  rcases find_none2 h x with ⟨hf, _⟩ | ⟨n, hn, he⟩
  · refine ⟨h, false, Nat.le_refl _, ?_, .inl ⟨hf, rfl⟩⟩
    refine bnd c1 (bnd q1 ?_)
    simp only [if_true]
    refine bnd f1 ?_
    simp only [hf, if_true]
    exact ev rfl
  · have w1 : wrap64 ((h.length : Int) - 1) = ((h.length - 1 : Nat) : Int) := (wid (by omega) (by omega)).trans (by omega)
    have w2 : (h.length : Int) - 1 = ((h.length - 1 : Nat) : Int) := by omega
    have hl1 : h.length - 1 < h.length := by omega
    have hnn : ¬ (n : Int) < 0 := by omega
    have key : ∃ r : List S56, r.length ≤ h.length ∧ Ev (fun k => if (n : Int) < ((h.length - 1 : Nat) : Int) then ((spec_l03Up.f k ((h.set n (rd_T56 h ((h.length - 1 : Nat) : Int))).take (h.length - 1)) (n : Int)).bind fun t => (spec_l03Down.f k t (n : Int)).bind fun t2 => some (t2, g, true)) else some ((h.set n (rd_T56 h ((h.length - 1 : Nat) : Int))).take (h.length - 1), g, true)) (r, g, true) ∧ Ev (fun k => impl_Heap_remove.f k h g (n : Int)) r := by
      unfold impl_Heap_remove.f spec_l03Up.f spec_l03Down.f impl_Heap_up.f impl_Heap_down.f
      simp only [w2, Int.natCast_nonneg, if_true, lt_cast hn, Int.toNat_natCast]
      generalize hL : (h.set n (rd_T56 h ((h.length - 1 : Nat) : Int))).take (h.length - 1) = L
      have hLl : L.length = h.length - 1 := by rw [← hL, List.length_take, List.length_set]; omega
      by_cases hlt : (n : Int) < ((h.length - 1 : Nat) : Int)
      · obtain ⟨r, hr, x1, x2⟩ := up_key g n n L (Nat.le_refl _) (by omega) (by omega)
        obtain ⟨r', hr', y1, y2⟩ := down_key g r.length n r (by omega) (by omega) (by omega)
        refine ⟨r', by omega, ?_, ?_⟩
        · simp only [hlt, if_true]; exact bnd x1 (bnd y1 (ev rfl))
        · simp only [hlt, if_true]; exact bnd x2 y2
      · refine ⟨L, by omega, ?_, ?_⟩
        · simp only [hlt, if_false]; exact ev rfl
        · simp only [hlt, if_false]; exact ev rfl
    obtain ⟨r, hr, k1, k2⟩ := key
    refine ⟨r, true, hr, ?_, .inr ⟨by rw [he]; exact hnn, by rw [he]; exact k2⟩⟩
    refine bnd c1 (bnd q1 ?_)
    simp only [if_true]
    refine bnd f1 ?_
    rw [he]
    simp only [hnn, if_false, w1, Int.natCast_nonneg, if_true, lt_cast hl1, lt_cast hn, if_pos (show ((h.length - 1 : Nat) : Int) ≤ (h.length : Int) by omega), Int.toNat_natCast, Option.bind_some]
    exact k1
theorem sched_main (h : List S56) (g x a : Int) (hl : h.length ≤ 100) (y : List S56) (b : List S56 × Int) (hb : b.2 = g) (hy : y.length ≤ 100) : ∃ R : List S56 × Int × Bool, R.1.length ≤ 1048576 ∧ Ev (fun k => (spec_l03Up.f k (y ++ [(⟨a, wrap64 (g + 1), x⟩ : S56)]) (wrap64 (((y ++ [(⟨a, wrap64 (g + 1), x⟩ : S56)]).length : Int) - 1))).bind fun t => ((spec_HeapOk.f k t (wrap64 (g + 1))).bind fun t2 => (if t2 = true then (some (t, wrap64 (g + 1), true)) else ((spec_l03Copy.f k h g).bind fun c => (some (c.1, c.2, false)))))) R ∧ Ev (fun k => impl_Schedule.main k h g x a b y) R := by
  classical
  subst hb
  unfold impl_Schedule.main
  generalize hY : y ++ [(⟨a, wrap64 (b.2 + 1), x⟩ : S56)] = Y
  have hYl : Y.length = y.length + 1 := by rw [← hY]; simp
  have w1 : wrap64 ((Y.length : Int) - 1) = ((Y.length - 1 : Nat) : Int) := (wid (by omega) (by omega)).trans (by omega)
  obtain ⟨r, hr, u1, u2⟩ := up_key (wrap64 (b.2 + 1)) (Y.length - 1) (Y.length - 1) Y (Nat.le_refl _) (by omega) (by omega)
  have c1 := l03Copy_ev h b.2 (by omega)
  have c2 := ownHeap_eq h b.2 (by omega)
  rw [w1]
  simp only [if_pos (show y.length < 1048576 by omega)]
  by_cases hk : HOk r (wrap64 (b.2 + 1))
  · have q1 := spec_HeapOk_ev r (wrap64 (b.2 + 1)) true (by simp [hk])
    have q2 := impl_HeapOk_ev r (wrap64 (b.2 + 1)) true (by simp [hk])
    refine ⟨(r, wrap64 (b.2 + 1), true), by show r.length ≤ _; omega, ?_, ?_⟩
    · refine bnd (show Ev (fun k => spec_l03Up.f k Y ((Y.length - 1 : Nat) : Int)) r from u1) (bnd q1 ?_)
      simp only [if_true]; exact ev rfl
    · refine bnd (show Ev (fun k => impl_Heap_up.f k Y (wrap64 (b.2 + 1)) ((Y.length - 1 : Nat) : Int)) r from u2) (bnd q2 ?_)
      simp only [if_true]; exact ev rfl
  · have q1 := spec_HeapOk_ev r (wrap64 (b.2 + 1)) false (by simp [hk])
    have q2 := impl_HeapOk_ev r (wrap64 (b.2 + 1)) false (by simp [hk])
    refine ⟨(h, b.2, false), by show h.length ≤ _; omega, ?_, ?_⟩
    · refine bnd (show Ev (fun k => spec_l03Up.f k Y ((Y.length - 1 : Nat) : Int)) r from u1) (bnd q1 ?_)
      simp only [Bool.false_eq_true, if_false]; exact bnd c1 (ev rfl)
    · refine bnd (show Ev (fun k => impl_Heap_up.f k Y (wrap64 (b.2 + 1)) ((Y.length - 1 : Nat) : Int)) r from u2) (bnd q2 ?_)
      simp only [Bool.false_eq_true, if_false, c2, Option.bind_some]; exact ev rfl
theorem Schedule_key (h : List S56) (g x a : Int) (hl : h.length ≤ 1048576) : ∃ R : List S56 × Int × Bool, R.1.length ≤ 1048576 ∧ Ev (fun k => spec_Schedule.f k h g x a) R ∧ Ev (fun k => impl_Schedule.f k h g x a) R := by
  classical
  have c1 := l03Copy_ev h g hl
  have c2 := ownHeap_eq h g hl
  have bad : Ev (fun k => spec_Schedule.j0 k x a true h g) (h, g, false) := by
    refine sh 1 ?_
    simp only [spec_Schedule.j0, if_true]
    exact bnd c1 (ev rfl)
  unfold spec_Schedule.f impl_Schedule.f
  by_cases hk : HOk h g
  · have q1 := spec_HeapOk_ev h g true (by simp [hk])
    have q2 := impl_HeapOk_ev h g true (by simp [hk])
    by_cases ht : 0 ≤ a ∧ a ≤ 1000000000
    · by_cases hi : 1 ≤ x ∧ x ≤ 1000000000
      · obtain ⟨r, bb, hr, k1, k2⟩ := Cancel_yes h g x hk
        have h100 := hk.1
        obtain ⟨R, hR, m1, m2⟩ := sched_main h g x a h100 r (h, g) rfl (by omega)
        refine ⟨R, hR, ?_, ?_⟩
        · refine bnd q1 ?_
          simp only [if_true, spec_TickOk_eq, l01In_eq, Option.bind_some, decide_eq_true ht, decide_eq_true hi, Bool.not_true]
          refine sh 1 ?_
          simp only [spec_Schedule.j0, Bool.false_eq_true, if_false]
          refine bnd k1 ?_
          simp only [if_pos (show r.length < 5864062014805 by omega), Option.bind_some]
          exact m1
        · refine bnd q2 ?_
          simp only [if_true, impl_TickOk_eq, isId_eq, Option.bind_some, decide_eq_true ht, decide_eq_true hi, c2, place_eq]
          rcases k2 with ⟨hf, rfl⟩ | ⟨hf, k2⟩
          · simp only [if_neg (show ¬ findD r x 0 ≥ 0 by omega)]
            exact m2
          · simp only [if_pos (show findD h x 0 ≥ 0 by omega)]
            exact bnd k2 m2
      · refine ⟨(h, g, false), hl, ?_, ?_⟩
        · refine bnd q1 ?_
          simp only [if_true, spec_TickOk_eq, l01In_eq, Option.bind_some, decide_eq_true ht, decide_eq_false hi, Bool.not_false]
          exact bad
        · refine bnd q2 ?_
          simp only [if_true, impl_TickOk_eq, isId_eq, Option.bind_some, decide_eq_true ht, decide_eq_false hi, Bool.false_eq_true, if_false, c2]
          exact ev rfl
    · refine ⟨(h, g, false), hl, ?_, ?_⟩
      · refine bnd q1 ?_
        simp only [if_true, spec_TickOk_eq, Option.bind_some, decide_eq_false ht, Bool.false_eq_true, if_false]
        exact bad
      · refine bnd q2 ?_
        simp only [if_true, impl_TickOk_eq, Option.bind_some, decide_eq_false ht, Bool.false_eq_true, if_false, c2]
        exact ev rfl
  · have q1 := spec_HeapOk_ev h g false (by simp [hk])
    have q2 := impl_HeapOk_ev h g false (by simp [hk])
    refine ⟨(h, g, false), hl, ?_, ?_⟩
    · refine bnd q1 ?_
      simp only [Bool.false_eq_true, if_false]
      exact bad
    · refine bnd q2 ?_
      simp only [Bool.false_eq_true, if_false, c2, Option.bind_some]
      exact ev rfl

def cvDue (x : S84) : S56 := ⟨x.f0, x.f1, x.f2⟩
theorem rdA_Due {l : List S84} {n : Nat} (h : n < l.length) : rd_T84 l (n : Int) = l[n] := by unfold rd_T84; rw [Int.toNat_natCast]; exact getD_get _ h
theorem toDueS_loop (l : List S84) (hl : l.length ≤ 9223372036854775807) : ∀ n, n ≤ l.length → ∀ acc : List S56, acc.length = l.length →
    Ev (fun k => laws_toDueS.l0 k l acc (n : Int)) (acc.take n ++ (l.drop n).map cvDue) := by
  refine down ?_ ?_
  · intro acc ha
    refine sh 1 ?_
    simp only [laws_toDueS.l0, Int.lt_irrefl, if_false]
    exact ev (by simp [← ha])
  · intro n hn ih acc ha
    refine sh 1 ?_
    simp only [laws_toDueS.l0, laws_toDue.f, lt_cast hn, ha, Int.natCast_nonneg, if_true, wsucc hn hl, Int.toNat_natCast, rdA_Due hn, Option.bind_some]
    refine eqv (ih (acc.set n (cvDue l[n])) (by simp [ha])) ?_
    rw [take_set (by omega), drop_cons hn, List.map_cons, List.append_assoc]; rfl
theorem toDueS_ev (l : List S84) (hl : l.length ≤ 1048576) : Ev (fun k => laws_toDueS.f k l) (l.map cvDue) := by
  unfold laws_toDueS.f
  simp only [Int.natCast_nonneg, if_true, Int.toNat_natCast]
  refine ite (fun _ => ?_) (fun h => absurd (show l.length ≤ 1099511627776 by omega) (by omega))
  exact eqv (toDueS_loop l (by omega) 0 (Nat.zero_le _) (List.replicate l.length z56) (by simp)) (by simp)

def mkDue (v : Int) : S56 := ⟨v, (v + 1), (v + 2)⟩
theorem rds_Due {l : List S56} {n : Nat} (h : n < l.length) (x : S56) : rd_T56 (l.set n x) (n : Int) = x := by rw [rdB_Due (by simpa using h)]; simp
theorem markDueS_loop (L : Nat) (hL : L ≤ 1099511627776) : ∀ n, n ≤ L → ∀ (acc : List S56) (v : Int), acc.length = L → 0 ≤ v → v + 3 * (L - n : Nat) ≤ 4611686018427387904 →
    Ev (fun k => laws_markDueS.l0 k acc v (n : Int)) (v + 3 * (L - n : Nat), acc.take n ++ mkG mkDue 3 v (L - n)) := by
  refine down ?_ ?_
  · intro acc v ha h0 hv
    refine sh 1 ?_
    simp only [laws_markDueS.l0, ha, Int.lt_irrefl, if_false]
    exact ev (by simp [mkG, ← ha])
  · intro n hn ih acc v ha h0 hv
    refine sh 1 ?_
    have hd : L - n = (L - (n + 1)) + 1 := by omega
    have e1 : wrap64 (v + 1) = v + 1 := wid (by omega) (by omega)
    have e2 : wrap64 (v + 1 + 1) = v + 2 := by rw [wid (by omega) (by omega)]; omega
    have e3 : wrap64 (v + 2 + 1) = v + 3 := by rw [wid (by omega) (by omega)]; omega
    have hn2 : n < acc.length := by omega
    simp only [laws_markDueS.l0, ha, lt_cast hn, Int.natCast_nonneg, if_true, wsucc hn (show L ≤ 9223372036854775807 by omega), Int.toNat_natCast, Option.bind_some, rds_Due hn2, List.set_set, e1, e2, e3]
    refine eqv (ih (acc.set n (mkDue v)) (v + 3) (by simp [ha]) (by omega) (by omega)) ?_
    rw [take_set (by omega), hd, mkG]
    simp only [List.append_assoc, List.cons_append, List.nil_append, Prod.mk.injEq, and_true]
    omega
theorem markDueS_ev (l : List S56) (v : Int) (hl : l.length ≤ 1099511627776) (h0 : 0 ≤ v) (h1 : v ≤ 1152921504606846976) : Ev (fun k => laws_markDueS.f k l v) (v + 3 * l.length, mkG mkDue 3 v l.length) := by
  unfold laws_markDueS.f
  refine eqv (markDueS_loop l.length hl 0 (Nat.zero_le _) l v rfl h0 (by omega)) ?_
  simp

theorem heldDueS_loop (L : Nat) (l : List S56) (hl : l.length = L) (hL : L ≤ 1099511627776) : ∀ n, n ≤ L → ∀ v : Int, 0 ≤ v → v + 3 * (L - n : Nat) ≤ 4611686018427387904 → l.drop n = mkG mkDue 3 v (L - n) →
    Ev (fun k => laws_heldDueS.l0 k l v (n : Int)) (v + 3 * (L - n : Nat)) := by
  refine down ?_ ?_
  · intro v h0 hv _
    refine sh 1 ?_
    simp only [laws_heldDueS.l0, hl, Int.lt_irrefl, if_false]
    exact ev (by simp)
  · intro n hn ih v h0 hv hd
    refine sh 1 ?_
    have hd2 : L - n = (L - (n + 1)) + 1 := by omega
    rw [hd2, mkG] at hd
    obtain ⟨hn2, hg, hdr⟩ := get_of_drop hd
    have e1 : wrap64 (v + 1) = v + 1 := wid (by omega) (by omega)
    have e2 : wrap64 (v + 1 + 1) = v + 2 := by rw [wid (by omega) (by omega)]; omega
    have e3 : wrap64 (v + 2 + 1) = v + 3 := by rw [wid (by omega) (by omega)]; omega
    simp only [laws_heldDueS.l0, hl, lt_cast hn, Int.natCast_nonneg, if_true, wsucc hn (show L ≤ 9223372036854775807 by omega), rdB_Due hn2, hg, mkDue, e1, e2, e3]
    refine eqv (ih (v + 3) (by omega) (by omega) hdr) ?_
    omega
theorem heldDueS_ev (L : Nat) (v : Int) (hl : L ≤ 1099511627776) (h0 : 0 ≤ v) (h1 : v ≤ 1152921504606846976) : Ev (fun k => laws_heldDueS.f k (mkG mkDue 3 v L) v) (v + 3 * L) := by
  unfold laws_heldDueS.f
  refine eqv (heldDueS_loop L _ (mkG_length _ _ _ _) hl 0 (Nat.zero_le _) v h0 (by omega) (by simp)) ?_
  simp

theorem szDueS_eq (l : List S84) (c : Int) (hc0 : 0 ≤ c) (hc : c ≤ 1048576) (hl : l.length ≤ maxLen) : laws_szDueS.f l c = some (if c < (l.length : Int) then -1 else c - (l.length : Int)) := by
  unfold laws_szDueS.f
  unfold maxLen at hl
  have e : wrap64 (c - (l.length : Int)) = c - (l.length : Int) := wid (by omega) (by omega)
  rw [e]
  split
  · rw [if_pos (by omega)]
  · rw [if_neg (by omega)]
theorem szHeap_small (h : List S84) (g : Int) (hs : h.length ≤ maxLen) : ∃ x, laws_szHeap.f h g 1048576 = some x ∧ (¬ x < 0 → h.length ≤ 1048576) := by
  unfold laws_szHeap.f
  simp only [szDueS_eq h 1048576 (by omega) (by omega) hs, Option.bind_some]
  by_cases h1 : (1048576 : Int) < (h.length : Int)
  · simp only [if_pos h1, if_pos (show (-1 : Int) < 0 by omega)]
    exact ⟨_, rfl, fun e => absurd (by omega) e⟩
  · have h2 : ¬ (1048576 - (h.length : Int) < 0) := by omega
    simp only [if_neg h1, if_neg h2]
    exact ⟨_, rfl, fun e => by omega⟩
theorem toHeap_ev (h : List S84) (g : Int) (hs : h.length ≤ 1048576) : Ev (fun k => laws_toHeap.f k h g) (h.map cvDue, g) := by
  unfold laws_toHeap.f
  exact bnd (toDueS_ev h hs) (ev rfl)
theorem eqHeap_ev (h : List S56) (g : Int) (hs : h.length ≤ 1048576) : Ev (fun k => laws_eqHeap.f k h g h g) true := by
  unfold laws_eqHeap.f
  refine bnd (eqDueS_ev h (by omega)) ?_
  simp only [if_true]; exact ev rfl
theorem markHeap_ev (h : List S56) (g : Int) (hs : h.length ≤ 1048576) : Ev (fun k => laws_markHeap.f k h g 1) (1 + 3 * (h.length : Int), mkG mkDue 3 1 h.length) := by
  unfold laws_markHeap.f
  exact bnd (markDueS_ev h 1 (by omega) (by omega) (by omega)) (ev rfl)
theorem heldHeap_ev (L : Nat) (g : Int) (hs : L ≤ 1048576) : Ev (fun k => laws_heldHeap.f k (mkG mkDue 3 1 L) g 1) (1 + 3 * (L : Int)) := by
  unfold laws_heldHeap.f
  refine bnd (heldDueS_ev L 1 (by omega) (by omega) (by omega)) ?_
  exact ite (fun e => absurd e (by omega)) (fun _ => ev rfl)

theorem pure_holds : PureOf := by
  intro h g x a hs hg hx ha
  refine Ev.rounds (g := fun k => laws_FnExactSchedule.f k h g x a) ?_
  unfold laws_FnExactSchedule.f
  obtain ⟨z, hz, hsm⟩ := szHeap_small h g hs.1
  simp only [hz, Option.bind_some]
  refine ite (fun _ => ev rfl) (fun hn => ?_)
  have hsl := hsm hn
  have ht := toHeap_ev h g hsl
  have hsl2 : (h.map cvDue).length ≤ 1048576 := by rw [List.length_map]; exact hsl
  generalize h.map cvDue = h1 at ht hsl2
  obtain ⟨R, hR, g1, g2⟩ := Schedule_key h1 g x a hsl2
  obtain ⟨m, b, f⟩ := R
  have hR : m.length ≤ 1048576 := hR
  have he := eqHeap_ev h1 g hsl2
  have hea := eqHeap_ev m b hR
  have hm := markHeap_ev h1 g hsl2
  have hma := markHeap_ev m b hR
  have hha := heldHeap_ev m.length b hR
  refine bnd ht (bnd g1 (bnd ht (bnd g2 (bnd hea ?_))))
  simp only [if_true, bne_self_eq_false]
  refine sh 1 ?_
  simp only [laws_FnExactSchedule.j0, Bool.false_eq_true, if_false]
  refine bnd ht (bnd he ?_)
  simp only [if_true]
  refine bnd hm ?_
  refine ite (fun e => absurd e (by omega)) (fun _ => ?_)
  refine bnd hea ?_
  simp only [if_true, bne_self_eq_false]
  refine sh 1 ?_
  simp only [laws_FnExactSchedule.j1, Bool.false_eq_true, if_false]
  refine bnd hma (bnd hha ?_)
  refine ite (fun e => absurd e (by omega)) (fun _ => ?_)
  simp only [if_true]
  refine bnd ht (bnd g2 (bnd hea ?_))
  simp only [if_true, bne_self_eq_false]
  refine sh 1 ?_
  simp only [laws_FnExactSchedule.j2, Bool.false_eq_true, if_false]
  refine bnd hha ?_
  refine ite (fun e => absurd e (by omega)) (fun _ => ?_)
  simp only [if_true]
  exact ev rfl

end Go.Proofs.Ytdffkcbaijbhoaa.PFnExactSchedule
