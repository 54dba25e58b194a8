/- The pure statement of FnExactOneHolder: the program's OneHolder answers what the reference's answers, for every input. -/
import Derived.Test.YtciehpgbhfngiaaPFnExactOneHolderx0
import Derived.Test.YtciehpgbhfngiaaPFnExactOneHolderx1
import Derived.Test.YtciehpgbhfngiaaPFnExactOneHolderx2
import Derived.Test.YtciehpgbhfngiaaPFnExactOneHolderx3
import Derived.Test.YtciehpgbhfngiaaPFnExactOneHolderx4
import Derived.Test.YtciehpgbhfngiaaPFnExactOneHolderx5
import Derived.Test.YtciehpgbhfngiaaAid
import Derived.Test.YtciehpgbhfngiaaGFnExactOneHolder
namespace Go.Proofs.Ytciehpgbhfngiaa.PFnExactOneHolder
open Go.RowKit Go.Proofs.YtciehpgbhfngiaaW.PrintWords Go.Proofs.YtciehpgbhfngiaaW.PrintLast Go.Proofs.Ytciehpgbhfngiaa.Opn Go.Proofs.Ytciehpgbhfngiaa.Aid
set_option linter.unusedVariables false
set_option linter.unusedSimpArgs false

def PureOf : Prop := ∀ (l0 : List (S35)), (l0.length ≤ maxLen ∧ ∀ y2 ∈ l0, G35 y2) → ∃ k, laws_FnExactOneHolder.f k l0 = some true
theorem l01In_eq (a b c : Int) : spec_l01In.f a b c = some (decide (b ≤ a ∧ a ≤ c)) := by
  unfold spec_l01In.f; split <;> simp [*]
theorem in_eq (a b c : Int) : impl_in.f a b c = some (decide (b ≤ a ∧ a ≤ c)) := by
  unfold impl_in.f; split
  · simp_all
  · next h => simp; omega

theorem spec_TickOk_eq (a : Int) : spec_TickOk.f a = some (decide (0 ≤ a ∧ a ≤ 1000000000)) := by
  unfold spec_TickOk.f; rw [l01In_eq]; rfl

theorem l01Has_loop (l : List Int) (x : Int) (hl : l.length ≤ 9223372036854775807) : ∀ n, n ≤ l.length → Ev (fun k => spec_l01Has.l0 k l x (n : Int)) (decide (x ∈ l.drop n)) := by
  refine down ?_ ?_
  · refine sh 1 ?_
    simp only [spec_l01Has.l0, Int.lt_irrefl, if_false]
    exact ev (by simp)
  · intro n hn ih
    refine sh 1 ?_
    simp only [spec_l01Has.l0, lt_cast hn, Int.natCast_nonneg, if_true, wsucc hn hl, rd_get hn]
    rw [drop_cons hn]
    refine ite (fun h => ev ?_) (fun h => eqv ih ?_)
    · exact dT (by rw [← h]; exact List.mem_cons_self)
    · exact decide_eq_decide.mpr ⟨fun hm => List.mem_cons_of_mem _ hm, fun hm => (List.mem_cons.mp hm).resolve_left (fun e => h e.symm)⟩
theorem l01Has_ev (l : List Int) (x : Int) (hl : l.length ≤ 9223372036854775807) : Ev (fun k => spec_l01Has.f k l x) (decide (x ∈ l)) := by
  unfold spec_l01Has.f
  exact eqv (l01Has_loop l x hl 0 (Nat.zero_le _)) (by simp)

theorem index_loop (l : List Int) (x : Int) (hl : l.length ≤ 9223372036854775807) : ∀ n, n ≤ l.length → Ev (fun k => slices_Index_int_int.l0 k l x (l.length : Int) (n : Int)) (if x ∈ l.drop n then ((n + (l.drop n).idxOf x : Nat) : Int) else -1) := by
  refine down ?_ ?_
  · refine sh 1 ?_
    simp only [slices_Index_int_int.l0, Int.lt_irrefl, if_false]
    exact ev (by simp)
  · intro n hn ih
    refine sh 1 ?_
    simp only [slices_Index_int_int.l0, lt_cast hn, Int.natCast_nonneg, if_true, wsucc hn hl, rd_get hn]
    rw [drop_cons hn]
    refine ite (fun h => ev ?_) (fun h => eqv ih ?_)
    · rw [← h, if_pos List.mem_cons_self, List.idxOf_cons_self]; simp
    · have h2 : ¬ l[n] = x := fun e => h e.symm
      by_cases hm : x ∈ l.drop (n + 1)
      · rw [if_pos hm, if_pos (List.mem_cons_of_mem _ hm), List.idxOf_cons, show (l[n] == x) = false from beq_eq_false_iff_ne.mpr h2, cond_false]; omega
      · rw [if_neg hm, if_neg (fun hc => hm ((List.mem_cons.mp hc).resolve_left h))]
theorem index_ev (l : List Int) (x : Int) (hl : l.length ≤ 9223372036854775807) : Ev (fun k => slices_Index_int_int.f k l x) (if x ∈ l then (l.idxOf x : Int) else -1) := by
  unfold slices_Index_int_int.f
  exact eqv (index_loop l x hl 0 (Nat.zero_le _)) (by simp)
theorem contains_ev (l : List Int) (x : Int) (hl : l.length ≤ 9223372036854775807) : Ev (fun k => slices_Contains_int_int.f k l x) (decide (x ∈ l)) := by
  unfold slices_Contains_int_int.f
  refine bnd (index_ev l x hl) (ev ?_)
  by_cases h : x ∈ l
  · simp only [h, if_true, decide_true]; exact decide_eq_true (by omega)
  · simp only [h, if_false, decide_false]; rfl

theorem rdB_Event {l : List S30} {n : Nat} (h : n < l.length) : rd_T30 l (n : Int) = l[n] := by unfold rd_T30; rw [Int.toNat_natCast]; exact getD_get _ h
theorem eqEvent_self (x : S30) : laws_eqEvent.f x.f0 x.f1 x.f2 x.f0 x.f1 x.f2 = some true := by unfold laws_eqEvent.f; simp
theorem eqEventS_loop (l : List S30) (hl : l.length ≤ 9223372036854775807) : ∀ n, n ≤ l.length → Ev (fun k => laws_eqEventS.l0 k l l (n : Int)) true := by
  refine down ?_ ?_
  · refine sh 1 ?_
    simp only [laws_eqEventS.l0, Int.lt_irrefl, if_false]
    exact ev rfl
  · intro n hn ih
    refine sh 1 ?_
    simp only [laws_eqEventS.l0, lt_cast hn, Int.natCast_nonneg, if_true, wsucc hn hl, eqEvent_self, Option.bind_some]
    exact ih
theorem eqEventS_ev (l : List S30) (hl : l.length ≤ 9223372036854775807) : Ev (fun k => laws_eqEventS.f k l l) true := by
  unfold laws_eqEventS.f
  simp only [if_true]
  exact eqEventS_loop l hl 0 (Nat.zero_le _)

def cvEvent (x : S35) : S30 := ⟨x.f0, x.f1, x.f2⟩
theorem rdA_Event {l : List S35} {n : Nat} (h : n < l.length) : rd_T35 l (n : Int) = l[n] := by unfold rd_T35; rw [Int.toNat_natCast]; exact getD_get _ h
theorem toEventS_loop (l : List S35) (hl : l.length ≤ 9223372036854775807) : ∀ n, n ≤ l.length → ∀ acc : List S30, acc.length = l.length →
    Ev (fun k => laws_toEventS.l0 k l acc (n : Int)) (acc.take n ++ (l.drop n).map cvEvent) := by
  refine down ?_ ?_
  · intro acc ha
    refine sh 1 ?_
    simp only [laws_toEventS.l0, Int.lt_irrefl, if_false]
    exact ev (by simp [← ha])
  · intro n hn ih acc ha
    refine sh 1 ?_
    simp only [laws_toEventS.l0, laws_toEvent.f, lt_cast hn, ha, Int.natCast_nonneg, if_true, wsucc hn hl, Int.toNat_natCast, rdA_Event hn, Option.bind_some]
    refine eqv (ih (acc.set n (cvEvent l[n])) (by simp [ha])) ?_
    rw [take_set (by omega), drop_cons hn, List.map_cons, List.append_assoc]; rfl
theorem toEventS_ev (l : List S35) (hl : l.length ≤ 1048576) : Ev (fun k => laws_toEventS.f k l) (l.map cvEvent) := by
  unfold laws_toEventS.f
  simp only [Int.natCast_nonneg, if_true, Int.toNat_natCast]
  refine ite (fun _ => ?_) (fun h => absurd (show l.length ≤ 1099511627776 by omega) (by omega))
  exact eqv (toEventS_loop l (by omega) 0 (Nat.zero_le _) (List.replicate l.length z30) (by simp)) (by simp)

theorem hasT_ev (a : Int) : Ev (fun k => spec_l01Has.f k ([3, 4, 7, 8, 9, 10] : List Int) a) (decide (a = 3 ∨ a = 4 ∨ a = 7 ∨ a = 8 ∨ a = 9 ∨ a = 10)) :=
  eqv (l01Has_ev _ a (by simp)) (by simp)
theorem hasTicket_ev (a : Int) : Ev (fun k => impl_hasTicket.f k a) (decide (a = 3 ∨ a = 4 ∨ a = 7 ∨ a = 8 ∨ a = 9 ∨ a = 10)) := by
  unfold impl_hasTicket.f
  exact bnd (contains_ev _ a (by simp)) (ev (by simp))
theorem hasConn_eq (a : Int) : impl_hasConn.f a = some (decide ((0 ≤ a ∧ a ≤ 6) ∨ a = 10)) := by
  unfold impl_hasConn.f
  simp only [in_eq, Option.bind_some, decide_eq_true_eq, Bool.not_eq_true', Bool.not_eq_true, decide_eq_false_iff_not, beq_iff_eq, bne_iff_ne, ne_eq, Bool.false_eq_true, Bool.true_eq_false, eq_self_iff_true, if_true, if_false, reduceIte, not_true_eq_false, not_false_eq_true]
  split
  · congr 1; exact (decide_eq_true (by omega)).symm
  · congr 1; rw [Bool.eq_iff_iff]; simp; omega
def EvFine (a b c : Int) : Prop := (0 ≤ a ∧ a ≤ 11) ∧ (0 ≤ b ∧ b ≤ 1000000000) ∧ (0 ≤ c ∧ c ≤ 1000000000) ∧ ((a ≤ 6 ∨ a = 10) → 1 ≤ c) ∧
  ((a = 3 ∨ a = 4 ∨ a = 7 ∨ a = 8 ∨ a = 9 ∨ a = 10) → 1 ≤ b) ∧ (¬ (a = 3 ∨ a = 4 ∨ a = 7 ∨ a = 8 ∨ a = 9 ∨ a = 10) → a ≠ 5 → b = 0) ∧ ((7 ≤ a ∧ a ≤ 9) → c = 0) ∧ (a = 11 → c ≤ 3)
def LogFrom (l : List S30) (n : Nat) : Prop := ∀ e ∈ l.drop n, EvFine e.f0 e.f1 e.f2
theorem logFrom_step {l : List S30} {n : Nat} (hn : n < l.length) : LogFrom l n ↔ EvFine l[n].f0 l[n].f1 l[n].f2 ∧ LogFrom l (n + 1) := by
  unfold LogFrom; rw [drop_cons hn, List.forall_mem_cons]
open Classical in
theorem spec_LogOk_loop (l : List S30) (hl : l.length ≤ 1048576) : ∀ n, n ≤ l.length → Ev (fun k => spec_LogOk.l0 k l (n : Int)) (decide (LogFrom l n)) := by
  refine down ?_ ?_
  · refine sh 1 ?_
    simp only [spec_LogOk.l0, Int.lt_irrefl, if_false]
    exact ev (dT (by unfold LogFrom; simp))
  · intro n hn ih
    refine sh 1 ?_
    have hs := logFrom_step hn
    have hw : wrap64 ((n : Int) + 1) = ((n + 1 : Nat) : Int) := wsucc hn (by omega)
    simp only [spec_LogOk.l0, lt_cast hn, Int.natCast_nonneg, rdB_Event hn, l01In_eq, spec_TickOk_eq, Option.bind_some, decide_eq_true_eq, Bool.not_eq_true', Bool.not_eq_true, decide_eq_false_iff_not, beq_iff_eq, bne_iff_ne, ne_eq, Bool.false_eq_true, Bool.true_eq_false, eq_self_iff_true, if_true, if_false, reduceIte, not_true_eq_false, not_false_eq_true]
    generalize l[n].f0 = a at hs ⊢
    generalize l[n].f1 = b at hs ⊢
    generalize l[n].f2 = c at hs ⊢
    repeat' (first | refine ite (fun _ => ?_) (fun _ => ?_) | refine ev ?_ | (refine bnd (hasT_ev _) ?_; (try simp only [Option.bind_some, decide_eq_true_eq, Bool.not_eq_true', Bool.not_eq_true, decide_eq_false_iff_not, beq_iff_eq, bne_iff_ne, ne_eq, Bool.false_eq_true, Bool.true_eq_false, eq_self_iff_true, if_true, if_false, reduceIte, not_true_eq_false, not_false_eq_true])) | refine eqv ih ?_ | (refine sh 1 ?_; simp only [spec_LogOk.j1, spec_LogOk.j2, spec_LogOk.j3, spec_LogOk.j4, l01In_eq, hw, Option.bind_some, decide_eq_true_eq, Bool.not_eq_true', Bool.not_eq_true, decide_eq_false_iff_not, beq_iff_eq, bne_iff_ne, ne_eq, Bool.false_eq_true, Bool.true_eq_false, eq_self_iff_true, if_true, if_false, reduceIte, not_true_eq_false, not_false_eq_true]))
    all_goals first
      | (refine dF ?_; rw [hs]; rintro ⟨h, _⟩; unfold EvFine at h; omega)
      | (refine decide_eq_decide.mpr ?_; rw [hs]; exact ⟨fun h => ⟨by unfold EvFine; omega, h⟩, fun h => h.2⟩)
open Classical in
theorem spec_LogOk_ev (l : List S30) (hl : l.length ≤ 1048576) : Ev (fun k => spec_LogOk.f k l) (decide (l.length ≤ 2000 ∧ LogFrom l 0)) := by
  unfold spec_LogOk.f
  refine ite (fun h => ev (dF (by omega))) (fun h => eqv (spec_LogOk_loop l hl 0 (Nat.zero_le _)) (decide_eq_decide.mpr ⟨fun h => ⟨by omega, h⟩, fun h => h.2⟩))
open Classical in
theorem impl_LogOk_loop (l : List S30) (hl : l.length ≤ 1048576) : ∀ n, n ≤ l.length → Ev (fun k => impl_LogOk.l0 k l (l.length : Int) (n : Int)) (decide (LogFrom l n)) := by
  refine down ?_ ?_
  · refine sh 1 ?_
    simp only [impl_LogOk.l0, Int.lt_irrefl, if_false]
    exact ev (dT (by unfold LogFrom; simp))
  · intro n hn ih
    refine sh 1 ?_
    have hs := logFrom_step hn
    have hw : wrap64 ((n : Int) + 1) = ((n + 1 : Nat) : Int) := wsucc hn (by omega)
    simp only [impl_LogOk.l0, lt_cast hn, Int.natCast_nonneg, rdB_Event hn, Option.bind_some, decide_eq_true_eq, Bool.not_eq_true', Bool.not_eq_true, decide_eq_false_iff_not, beq_iff_eq, bne_iff_ne, ne_eq, Bool.false_eq_true, Bool.true_eq_false, eq_self_iff_true, if_true, if_false, reduceIte, not_true_eq_false, not_false_eq_true]
    generalize l[n].f0 = a at hs ⊢
    generalize l[n].f1 = b at hs ⊢
    generalize l[n].f2 = c at hs ⊢
    repeat' (first | refine ite (fun _ => ?_) (fun _ => ?_) | refine ev ?_ | (refine bnd (hasTicket_ev _) ?_; (try simp only [Option.bind_some, decide_eq_true_eq, Bool.not_eq_true', Bool.not_eq_true, decide_eq_false_iff_not, beq_iff_eq, bne_iff_ne, ne_eq, Bool.false_eq_true, Bool.true_eq_false, eq_self_iff_true, if_true, if_false, reduceIte, not_true_eq_false, not_false_eq_true])) | refine eqv ih ?_ | (refine sh 1 ?_; simp only [impl_LogOk.j1, impl_LogOk.j2, impl_LogOk.j3, impl_LogOk.j4, in_eq, hasConn_eq, hw, Option.bind_some, decide_eq_true_eq, Bool.not_eq_true', Bool.not_eq_true, decide_eq_false_iff_not, beq_iff_eq, bne_iff_ne, ne_eq, Bool.false_eq_true, Bool.true_eq_false, eq_self_iff_true, if_true, if_false, reduceIte, not_true_eq_false, not_false_eq_true]))
    all_goals first
      | (refine dF ?_; rw [hs]; rintro ⟨h, _⟩; unfold EvFine at h; omega)
      | (refine decide_eq_decide.mpr ?_; rw [hs]; exact ⟨fun h => ⟨by unfold EvFine; omega, h⟩, fun h => h.2⟩)
open Classical in
theorem impl_LogOk_ev (l : List S30) (hl : l.length ≤ 1048576) : Ev (fun k => impl_LogOk.f k l) (decide (l.length ≤ 2000 ∧ LogFrom l 0)) := by
  unfold impl_LogOk.f
  refine ite (fun h => ev (dF (by omega))) (fun h => eqv (impl_LogOk_loop l hl 0 (Nat.zero_le _)) (decide_eq_decide.mpr ⟨fun h => ⟨by omega, h⟩, fun h => h.2⟩))

def hold (c : Int) : List S30 → Int → Int
  | [], a => a
  | e :: l, a => hold c l (if e.f2 = c then (if e.f0 = 3 then e.f1 else if e.f0 = 4 then 0 else if e.f0 = 5 then 0 else a) else a)
theorem hold_snoc (c : Int) (e : S30) : ∀ (l : List S30) (a : Int), hold c (l ++ [e]) a = (if e.f2 = c then (if e.f0 = 3 then e.f1 else if e.f0 = 4 then 0 else if e.f0 = 5 then 0 else hold c l a) else hold c l a)
  | [], _ => rfl
  | x :: l, a => by simp only [List.cons_append, hold]; exact hold_snoc c e l _
theorem holder_loop (l : List S30) (N : Nat) (hN : N ≤ l.length) (hl : l.length ≤ 1048576) (c : Int) : ∀ n, n ≤ N → ∀ a, Ev (fun k => spec_l11Holder.l0 k l (N : Int) c a (n : Int)) (hold c ((l.take N).drop n) a) := by
  refine down ?_ ?_
  · intro a
    refine sh 1 ?_
    simp only [spec_l11Holder.l0, Int.lt_irrefl, if_false]
    exact ev (by rw [List.drop_eq_nil_of_le (by rw [List.length_take]; omega)]; rfl)
  · intro n hn ih a
    have hnl : n < l.length := by omega
    have hd : (l.take N).drop n = l[n] :: (l.take N).drop (n + 1) := by rw [List.drop_eq_getElem_cons (by simp; omega)]; simp
    refine sh 1 ?_
    rw [hd]
    simp only [spec_l11Holder.l0, lt_cast hn, lt_cast hnl, Int.natCast_nonneg, rdB_Event hnl, wsucc hn (show N ≤ 9223372036854775807 by omega), if_true, hold]
    generalize l[n] = e
    split
    · split
      · exact ih _
      · split
        · exact ih _
        · split
          · exact ih _
          · exact ih _
    · exact ih _
theorem holder_ev (l : List S30) (N : Nat) (hN : N ≤ l.length) (hl : l.length ≤ 1048576) (c : Int) : Ev (fun k => spec_l11Holder.f k l (N : Int) c) (hold c (l.take N) 0) := by
  unfold spec_l11Holder.f
  exact eqv (holder_loop l N hN hl c 0 (Nat.zero_le _) 0) (by simp)
theorem hasH_ev (a : Int) : Ev (fun k => spec_l01Has.f k ([3, 4, 5, 10] : List Int) a) (decide (a = 3 ∨ a = 4 ∨ a = 5 ∨ a = 10)) :=
  eqv (l01Has_ev _ a (by simp)) (by simp)
theorem one_loop (l : List S30) (hl : l.length ≤ 1048576) : ∀ n, n ≤ l.length → ∀ m : List (Int × Int), (∀ c, Go.Proofs.Ytciehpgbhfngiaa.Giv.lookT m c = hold c (l.take n) 0) →
    Ev (fun k => spec_OneHolder.l0 k l (n : Int)) (impl_OneHolder.run (l.drop n) m) := by
  refine down ?_ ?_
  · intro m hm
    refine sh 1 ?_
    simp only [spec_OneHolder.l0, Int.lt_irrefl, if_false]
    exact ev (by rw [List.drop_eq_nil_of_le (Nat.le_refl _)]; rfl)
  · intro n hn ih m hm
    refine sh 1 ?_
    have hs : ∀ c, hold c (l.take (n + 1)) 0 = (if l[n].f2 = c then (if l[n].f0 = 3 then l[n].f1 else if l[n].f0 = 4 then 0 else if l[n].f0 = 5 then 0 else hold c (l.take n) 0) else hold c (l.take n) 0) := by
      intro c; rw [List.take_succ_eq_append_getElem hn, hold_snoc]
    have hh : ∀ c, Ev (fun k => spec_l11Holder.f k l (n : Int) c) (Go.Proofs.Ytciehpgbhfngiaa.Giv.lookT m c) := fun c => eqv (holder_ev l n (by omega) hl c) (hm c).symm
    rw [List.drop_eq_getElem_cons hn]
    simp only [spec_OneHolder.l0, lt_cast hn, Int.natCast_nonneg, rdB_Event hn, wsucc hn (show l.length ≤ 9223372036854775807 by omega), if_true]
    generalize l[n] = e at hs ⊢
    obtain ⟨a, b, c⟩ := e
    dsimp only at hs ⊢
    have same : (∀ x, hold x (l.take (n + 1)) 0 = hold x (l.take n) 0) → ∀ x, Go.Proofs.Ytciehpgbhfngiaa.Giv.lookT m x = hold x (l.take (n + 1)) 0 := fun h x => by rw [h, hm]
    refine bnd (hasH_ev a) ?_
    by_cases k3 : a = 3
    · subst k3
      simp only [true_or, decide_true, if_true]
      refine bnd (hh c) ?_
      simp only [impl_OneHolder.run, show impl_OneHolder.hc 3 = true by decide, if_true]
      by_cases h0 : Go.Proofs.Ytciehpgbhfngiaa.Giv.lookT m c = 0
      · simp only [h0, if_true]
        exact ih _ (fun x => by rw [hs x, if_pos rfl, ← hm x]; rfl)
      · simp only [if_neg h0]; exact ev rfl
    · by_cases k4 : a = 4
      · subst k4
        simp only [true_or, or_true, decide_true, if_true, if_neg k3]
        refine bnd (hh c) ?_
        simp only [impl_OneHolder.run, show impl_OneHolder.hc 4 = true by decide, if_true, if_neg k3, true_or]
        by_cases h0 : Go.Proofs.Ytciehpgbhfngiaa.Giv.lookT m c = b
        · simp only [h0, if_true]
          exact ih _ (fun x => by rw [hs x, if_neg k3, if_pos rfl, ← hm x]; rfl)
        · simp only [if_neg h0]; exact ev rfl
      · by_cases k5 : a = 5
        · subst k5
          simp only [true_or, or_true, decide_true, if_true, if_neg k3]
          refine bnd (hh c) ?_
          simp only [impl_OneHolder.run, show impl_OneHolder.hc 5 = true by decide, if_true, if_neg k3, or_true]
          by_cases h0 : Go.Proofs.Ytciehpgbhfngiaa.Giv.lookT m c = b
          · simp only [h0, if_true]
            exact ih _ (fun x => by rw [hs x, if_neg k3, if_neg k4, if_pos rfl, ← hm x]; rfl)
          · simp only [if_neg h0]; exact ev rfl
        · have hs2 : ∀ x, hold x (l.take (n + 1)) 0 = hold x (l.take n) 0 := fun x => by rw [hs x, if_neg k3, if_neg k4, if_neg k5, ite_self]
          by_cases k10 : a = 10
          · subst k10
            simp only [true_or, or_true, decide_true, if_true, if_neg k3]
            refine bnd (hh c) ?_
            simp only [impl_OneHolder.run, show impl_OneHolder.hc 10 = true by decide, if_true, if_neg k3, if_neg (show ¬ ((10 : Int) = 4 ∨ (10 : Int) = 5) by decide)]
            by_cases h0 : Go.Proofs.Ytciehpgbhfngiaa.Giv.lookT m c = b
            · simp only [h0, if_true]
              exact ih _ (same hs2)
            · simp only [if_neg h0]; exact ev rfl
          · have hd : decide (a = 3 ∨ a = 4 ∨ a = 5 ∨ a = 10) = false := decide_eq_false (by omega)
            simp only [hd, Bool.false_eq_true, if_false, impl_OneHolder.run, if_neg k3, if_neg k10, if_neg (show ¬ (a = 4 ∨ a = 5) by omega)]
            exact ih _ (same hs2)
open Classical in
theorem spec_OneHolder_ev (l : List S30) (hl : l.length ≤ 1048576) : Ev (fun k => spec_OneHolder.f k l) (if l.length ≤ 2000 ∧ LogFrom l 0 then impl_OneHolder.run l [] else false) := by
  unfold spec_OneHolder.f
  refine bnd (spec_LogOk_ev l hl) ?_
  by_cases h : l.length ≤ 2000 ∧ LogFrom l 0
  · simp only [decide_eq_true h, if_true, if_pos h]
    exact eqv (one_loop l hl 0 (Nat.zero_le _) [] (fun c => by simp [hold, Go.Proofs.Ytciehpgbhfngiaa.Giv.lookT])) (by simp)
  · simp only [decide_eq_false h, if_neg h, Bool.false_eq_true, if_false]
    exact ev rfl
open Classical in
theorem impl_OneHolder_ev (l : List S30) (hl : l.length ≤ 1048576) : Ev (fun k => impl_OneHolder.f k l) (if l.length ≤ 2000 ∧ LogFrom l 0 then impl_OneHolder.run l [] else false) := by
  unfold impl_OneHolder.f
  refine bnd (impl_LogOk_ev l hl) ?_
  by_cases h : l.length ≤ 2000 ∧ LogFrom l 0
  · have ha : l.all impl_OneHolder.rng = true := by
      rw [List.all_eq_true]
      intro e he
      have hf := h.2 e (by simpa using he)
      unfold EvFine at hf
      unfold impl_OneHolder.rng
      exact decide_eq_true (by omega)
    simp only [decide_eq_true h, if_true, if_pos h, ha]
    exact ev rfl
  · simp only [decide_eq_false h, if_neg h, Bool.false_eq_true, if_false]
    exact ev rfl

theorem szEventS_small (l : List S35) (hl : l.length ≤ maxLen) : ∃ t, laws_szEventS.f l 1048576 = some t ∧ (¬ t < 0 → l.length ≤ 1048576) := by
  unfold laws_szEventS.f maxLen at *
  split
  · exact ⟨_, rfl, fun h => absurd (by decide) h⟩
  · next h => refine ⟨_, rfl, fun _ => ?_⟩; unfold wrap64 at h; omega

/-- The shell of a law over a log: both sides answer alike. -/
theorem mapEv_len {l : List S35} (h : l.length ≤ 1048576) : (l.map cvEvent).length ≤ 1048576 := by rw [List.length_map]; exact h

theorem pure_holds : PureOf := by
  intro l hl
  refine Ev.rounds (g := fun k => laws_FnExactOneHolder.f k l) ?_
  unfold laws_FnExactOneHolder.f
  obtain ⟨t, ht, hs⟩ := szEventS_small l hl.1
  simp only [ht, Option.bind_some]
  refine ite (fun h => ev rfl) (fun h => ?_)
  have hb := hs h
  have hb2 := mapEv_len hb
  have h1 := spec_OneHolder_ev _ hb2
  have h2 := impl_OneHolder_ev _ hb2
  have he := eqEventS_ev _ (show (l.map cvEvent).length ≤ 9223372036854775807 by omega)
  repeat' (first | exact ev rfl | (refine ite (fun h => absurd h (by omega)) (fun _ => ?_)) | (refine ite (fun _ => ?_) (fun h => absurd rfl h)) | refine bnd (toEventS_ev l hb) ?_ | refine bnd (h1) ?_ | refine bnd (h2) ?_ | refine bnd (he) ?_ | simp only [laws_FnExactOneHolder.f, if_true, bne_self_eq_false, Bool.false_eq_true, if_false, Option.bind_some, Bool.not_true, Bool.not_false] | (refine sh 1 ?_; simp only [laws_FnExactOneHolder.f, if_true, bne_self_eq_false, Bool.false_eq_true, if_false, Option.bind_some, Bool.not_true, Bool.not_false]))

end Go.Proofs.Ytciehpgbhfngiaa.PFnExactOneHolder
