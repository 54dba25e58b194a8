/- The pure statement of FnExactAnsweredOnce: the program's AnsweredOnce answers what the reference's answers, for every input. -/
import Derived.Test.YtfnphdikfialnaaPFnExactAnsweredOncex0
import Derived.Test.YtfnphdikfialnaaPFnExactAnsweredOncex1
import Derived.Test.YtfnphdikfialnaaPFnExactAnsweredOncex2
import Derived.Test.YtfnphdikfialnaaPFnExactAnsweredOncex3
import Derived.Test.YtfnphdikfialnaaPFnExactAnsweredOncex4
import Derived.Test.YtfnphdikfialnaaPFnExactAnsweredOncex5
import Derived.Test.YtfnphdikfialnaaAid
import Derived.Test.YtfnphdikfialnaaGFnExactAnsweredOnce
namespace Go.Proofs.Ytfnphdikfialnaa.PFnExactAnsweredOnce
open Go.RowKit Go.Proofs.YtfnphdikfialnaaW.PrintWords Go.Proofs.YtfnphdikfialnaaW.PrintLast Go.Proofs.Ytfnphdikfialnaa.Opn Go.Proofs.Ytfnphdikfialnaa.Aid
set_option linter.unusedVariables false
set_option linter.unusedSimpArgs false

def PureOf : Prop := ∀ (l0 : List (S33)), (l0.length ≤ maxLen ∧ ∀ y2 ∈ l0, G33 y2) → ∃ k, laws_FnExactAnsweredOnce.f k l0 = some true
theorem l01In_eq (a b c : Int) : spec_l01In.f a b c = some (decide (b ≤ a ∧ a ≤ c)) := by
  unfold spec_l01In.f; split <;> simp [*]
theorem in_eq (a b c : Int) : impl_in.f a b c = some (decide (b ≤ a ∧ a ≤ c)) := by
  unfold impl_in.f; split
  · simp_all
  · next h => simp; omega

theorem spec_TickOk_eq (a : Int) : spec_TickOk.f a = some (decide (0 ≤ a ∧ a ≤ 1000000000)) := by
  unfold spec_TickOk.f; rw [l01In_eq]; rfl

theorem l01Has_loop (l : List Int) (x : Int) (hl : l.length ≤ 9223372036854775807) : ∀ n, n ≤ l.length → Ev (fun k => spec_l01Has.l0 k l x (n : Int)) (decide (x ∈ l.drop n)) := by
  refine down ?_ ?_
  · refine sh 1 ?_
    simp only [spec_l01Has.l0, Int.lt_irrefl, if_false]
    exact ev (by simp)
  · intro n hn ih
    refine sh 1 ?_
    simp only [spec_l01Has.l0, lt_cast hn, Int.natCast_nonneg, if_true, wsucc hn hl, rd_get hn]
    rw [drop_cons hn]
    refine ite (fun h => ev ?_) (fun h => eqv ih ?_)
    · exact dT (by rw [← h]; exact List.mem_cons_self)
    · exact decide_eq_decide.mpr ⟨fun hm => List.mem_cons_of_mem _ hm, fun hm => (List.mem_cons.mp hm).resolve_left (fun e => h e.symm)⟩
theorem l01Has_ev (l : List Int) (x : Int) (hl : l.length ≤ 9223372036854775807) : Ev (fun k => spec_l01Has.f k l x) (decide (x ∈ l)) := by
  unfold spec_l01Has.f
  exact eqv (l01Has_loop l x hl 0 (Nat.zero_le _)) (by simp)

theorem index_loop (l : List Int) (x : Int) (hl : l.length ≤ 9223372036854775807) : ∀ n, n ≤ l.length → Ev (fun k => slices_Index_int_int.l0 k l x (l.length : Int) (n : Int)) (if x ∈ l.drop n then ((n + (l.drop n).idxOf x : Nat) : Int) else -1) := by
  refine down ?_ ?_
  · refine sh 1 ?_
    simp only [slices_Index_int_int.l0, Int.lt_irrefl, if_false]
    exact ev (by simp)
  · intro n hn ih
    refine sh 1 ?_
    simp only [slices_Index_int_int.l0, lt_cast hn, Int.natCast_nonneg, if_true, wsucc hn hl, rd_get hn]
    rw [drop_cons hn]
    refine ite (fun h => ev ?_) (fun h => eqv ih ?_)
    · rw [← h, if_pos List.mem_cons_self, List.idxOf_cons_self]; simp
    · have h2 : ¬ l[n] = x := fun e => h e.symm
      by_cases hm : x ∈ l.drop (n + 1)
      · rw [if_pos hm, if_pos (List.mem_cons_of_mem _ hm), List.idxOf_cons, show (l[n] == x) = false from beq_eq_false_iff_ne.mpr h2, cond_false]; omega
      · rw [if_neg hm, if_neg (fun hc => hm ((List.mem_cons.mp hc).resolve_left h))]
theorem index_ev (l : List Int) (x : Int) (hl : l.length ≤ 9223372036854775807) : Ev (fun k => slices_Index_int_int.f k l x) (if x ∈ l then (l.idxOf x : Int) else -1) := by
  unfold slices_Index_int_int.f
  exact eqv (index_loop l x hl 0 (Nat.zero_le _)) (by simp)
theorem contains_ev (l : List Int) (x : Int) (hl : l.length ≤ 9223372036854775807) : Ev (fun k => slices_Contains_int_int.f k l x) (decide (x ∈ l)) := by
  unfold slices_Contains_int_int.f
  refine bnd (index_ev l x hl) (ev ?_)
  by_cases h : x ∈ l
  · simp only [h, if_true, decide_true]; exact decide_eq_true (by omega)
  · simp only [h, if_false, decide_false]; rfl

theorem rdB_Event {l : List S31} {n : Nat} (h : n < l.length) : rd_T31 l (n : Int) = l[n] := by unfold rd_T31; rw [Int.toNat_natCast]; exact getD_get _ h
theorem eqEvent_self (x : S31) : laws_eqEvent.f x.f0 x.f1 x.f2 x.f0 x.f1 x.f2 = some true := by unfold laws_eqEvent.f; simp
theorem eqEventS_loop (l : List S31) (hl : l.length ≤ 9223372036854775807) : ∀ n, n ≤ l.length → Ev (fun k => laws_eqEventS.l0 k l l (n : Int)) true := by
  refine down ?_ ?_
  · refine sh 1 ?_
    simp only [laws_eqEventS.l0, Int.lt_irrefl, if_false]
    exact ev rfl
  · intro n hn ih
    refine sh 1 ?_
    simp only [laws_eqEventS.l0, lt_cast hn, Int.natCast_nonneg, if_true, wsucc hn hl, eqEvent_self, Option.bind_some]
    exact ih
theorem eqEventS_ev (l : List S31) (hl : l.length ≤ 9223372036854775807) : Ev (fun k => laws_eqEventS.f k l l) true := by
  unfold laws_eqEventS.f
  simp only [if_true]
  exact eqEventS_loop l hl 0 (Nat.zero_le _)

def cvEvent (x : S33) : S31 := ⟨x.f0, x.f1, x.f2⟩
theorem rdA_Event {l : List S33} {n : Nat} (h : n < l.length) : rd_T33 l (n : Int) = l[n] := by unfold rd_T33; rw [Int.toNat_natCast]; exact getD_get _ h
theorem toEventS_loop (l : List S33) (hl : l.length ≤ 9223372036854775807) : ∀ n, n ≤ l.length → ∀ acc : List S31, acc.length = l.length →
    Ev (fun k => laws_toEventS.l0 k l acc (n : Int)) (acc.take n ++ (l.drop n).map cvEvent) := by
  refine down ?_ ?_
  · intro acc ha
    refine sh 1 ?_
    simp only [laws_toEventS.l0, Int.lt_irrefl, if_false]
    exact ev (by simp [← ha])
  · intro n hn ih acc ha
    refine sh 1 ?_
    simp only [laws_toEventS.l0, laws_toEvent.f, lt_cast hn, ha, Int.natCast_nonneg, if_true, wsucc hn hl, Int.toNat_natCast, rdA_Event hn, Option.bind_some]
    refine eqv (ih (acc.set n (cvEvent l[n])) (by simp [ha])) ?_
    rw [take_set (by omega), drop_cons hn, List.map_cons, List.append_assoc]; rfl
theorem toEventS_ev (l : List S33) (hl : l.length ≤ 1048576) : Ev (fun k => laws_toEventS.f k l) (l.map cvEvent) := by
  unfold laws_toEventS.f
  simp only [Int.natCast_nonneg, if_true, Int.toNat_natCast]
  refine ite (fun _ => ?_) (fun h => absurd (show l.length ≤ 1099511627776 by omega) (by omega))
  exact eqv (toEventS_loop l (by omega) 0 (Nat.zero_le _) (List.replicate l.length z31) (by simp)) (by simp)

theorem hasT_ev (a : Int) : Ev (fun k => spec_l01Has.f k ([3, 4, 7, 8, 9, 10] : List Int) a) (decide (a = 3 ∨ a = 4 ∨ a = 7 ∨ a = 8 ∨ a = 9 ∨ a = 10)) :=
  eqv (l01Has_ev _ a (by simp)) (by simp)
theorem hasTicket_ev (a : Int) : Ev (fun k => impl_hasTicket.f k a) (decide (a = 3 ∨ a = 4 ∨ a = 7 ∨ a = 8 ∨ a = 9 ∨ a = 10)) := by
  unfold impl_hasTicket.f
  exact bnd (contains_ev _ a (by simp)) (ev (by simp))
theorem hasConn_eq (a : Int) : impl_hasConn.f a = some (decide ((0 ≤ a ∧ a ≤ 6) ∨ a = 10)) := by
  unfold impl_hasConn.f
  simp only [in_eq, Option.bind_some, decide_eq_true_eq, Bool.not_eq_true', Bool.not_eq_true, decide_eq_false_iff_not, beq_iff_eq, bne_iff_ne, ne_eq, Bool.false_eq_true, Bool.true_eq_false, eq_self_iff_true, if_true, if_false, reduceIte, not_true_eq_false, not_false_eq_true]
  split
  · congr 1; exact (decide_eq_true (by omega)).symm
  · congr 1; rw [Bool.eq_iff_iff]; simp; omega
def EvFine (a b c : Int) : Prop := (0 ≤ a ∧ a ≤ 11) ∧ (0 ≤ b ∧ b ≤ 1000000000) ∧ (0 ≤ c ∧ c ≤ 1000000000) ∧ ((a ≤ 6 ∨ a = 10) → 1 ≤ c) ∧
  ((a = 3 ∨ a = 4 ∨ a = 7 ∨ a = 8 ∨ a = 9 ∨ a = 10) → 1 ≤ b) ∧ (¬ (a = 3 ∨ a = 4 ∨ a = 7 ∨ a = 8 ∨ a = 9 ∨ a = 10) → a ≠ 5 → b = 0) ∧ ((7 ≤ a ∧ a ≤ 9) → c = 0) ∧ (a = 11 → c ≤ 3)
def LogFrom (l : List S31) (n : Nat) : Prop := ∀ e ∈ l.drop n, EvFine e.f0 e.f1 e.f2
theorem logFrom_step {l : List S31} {n : Nat} (hn : n < l.length) : LogFrom l n ↔ EvFine l[n].f0 l[n].f1 l[n].f2 ∧ LogFrom l (n + 1) := by
  unfold LogFrom; rw [drop_cons hn, List.forall_mem_cons]
open Classical in
theorem spec_LogOk_loop (l : List S31) (hl : l.length ≤ 1048576) : ∀ n, n ≤ l.length → Ev (fun k => spec_LogOk.l0 k l (n : Int)) (decide (LogFrom l n)) := by
  refine down ?_ ?_
  · refine sh 1 ?_
    simp only [spec_LogOk.l0, Int.lt_irrefl, if_false]
    exact ev (dT (by unfold LogFrom; simp))
  · intro n hn ih
    refine sh 1 ?_
    have hs := logFrom_step hn
    have hw : wrap64 ((n : Int) + 1) = ((n + 1 : Nat) : Int) := wsucc hn (by omega)
    simp only [spec_LogOk.l0, lt_cast hn, Int.natCast_nonneg, rdB_Event hn, l01In_eq, spec_TickOk_eq, Option.bind_some, decide_eq_true_eq, Bool.not_eq_true', Bool.not_eq_true, decide_eq_false_iff_not, beq_iff_eq, bne_iff_ne, ne_eq, Bool.false_eq_true, Bool.true_eq_false, eq_self_iff_true, if_true, if_false, reduceIte, not_true_eq_false, not_false_eq_true]
    generalize l[n].f0 = a at hs ⊢
    generalize l[n].f1 = b at hs ⊢
    generalize l[n].f2 = c at hs ⊢
    repeat' (first | refine ite (fun _ => ?_) (fun _ => ?_) | refine ev ?_ | (refine bnd (hasT_ev _) ?_; (try simp only [Option.bind_some, decide_eq_true_eq, Bool.not_eq_true', Bool.not_eq_true, decide_eq_false_iff_not, beq_iff_eq, bne_iff_ne, ne_eq, Bool.false_eq_true, Bool.true_eq_false, eq_self_iff_true, if_true, if_false, reduceIte, not_true_eq_false, not_false_eq_true])) | refine eqv ih ?_ | (refine sh 1 ?_; simp only [spec_LogOk.j1, spec_LogOk.j2, spec_LogOk.j3, spec_LogOk.j4, l01In_eq, hw, Option.bind_some, decide_eq_true_eq, Bool.not_eq_true', Bool.not_eq_true, decide_eq_false_iff_not, beq_iff_eq, bne_iff_ne, ne_eq, Bool.false_eq_true, Bool.true_eq_false, eq_self_iff_true, if_true, if_false, reduceIte, not_true_eq_false, not_false_eq_true]))
    all_goals first
      | (refine dF ?_; rw [hs]; rintro ⟨h, _⟩; unfold EvFine at h; omega)
      | (refine decide_eq_decide.mpr ?_; rw [hs]; exact ⟨fun h => ⟨by unfold EvFine; omega, h⟩, fun h => h.2⟩)
open Classical in
theorem spec_LogOk_ev (l : List S31) (hl : l.length ≤ 1048576) : Ev (fun k => spec_LogOk.f k l) (decide (l.length ≤ 2000 ∧ LogFrom l 0)) := by
  unfold spec_LogOk.f
  refine ite (fun h => ev (dF (by omega))) (fun h => eqv (spec_LogOk_loop l hl 0 (Nat.zero_le _)) (decide_eq_decide.mpr ⟨fun h => ⟨by omega, h⟩, fun h => h.2⟩))
open Classical in
theorem impl_LogOk_loop (l : List S31) (hl : l.length ≤ 1048576) : ∀ n, n ≤ l.length → Ev (fun k => impl_LogOk.l0 k l (l.length : Int) (n : Int)) (decide (LogFrom l n)) := by
  refine down ?_ ?_
  · refine sh 1 ?_
    simp only [impl_LogOk.l0, Int.lt_irrefl, if_false]
    exact ev (dT (by unfold LogFrom; simp))
  · intro n hn ih
    refine sh 1 ?_
    have hs := logFrom_step hn
    have hw : wrap64 ((n : Int) + 1) = ((n + 1 : Nat) : Int) := wsucc hn (by omega)
    simp only [impl_LogOk.l0, lt_cast hn, Int.natCast_nonneg, rdB_Event hn, Option.bind_some, decide_eq_true_eq, Bool.not_eq_true', Bool.not_eq_true, decide_eq_false_iff_not, beq_iff_eq, bne_iff_ne, ne_eq, Bool.false_eq_true, Bool.true_eq_false, eq_self_iff_true, if_true, if_false, reduceIte, not_true_eq_false, not_false_eq_true]
    generalize l[n].f0 = a at hs ⊢
    generalize l[n].f1 = b at hs ⊢
    generalize l[n].f2 = c at hs ⊢
    repeat' (first | refine ite (fun _ => ?_) (fun _ => ?_) | refine ev ?_ | (refine bnd (hasTicket_ev _) ?_; (try simp only [Option.bind_some, decide_eq_true_eq, Bool.not_eq_true', Bool.not_eq_true, decide_eq_false_iff_not, beq_iff_eq, bne_iff_ne, ne_eq, Bool.false_eq_true, Bool.true_eq_false, eq_self_iff_true, if_true, if_false, reduceIte, not_true_eq_false, not_false_eq_true])) | refine eqv ih ?_ | (refine sh 1 ?_; simp only [impl_LogOk.j1, impl_LogOk.j2, impl_LogOk.j3, impl_LogOk.j4, in_eq, hasConn_eq, hw, Option.bind_some, decide_eq_true_eq, Bool.not_eq_true', Bool.not_eq_true, decide_eq_false_iff_not, beq_iff_eq, bne_iff_ne, ne_eq, Bool.false_eq_true, Bool.true_eq_false, eq_self_iff_true, if_true, if_false, reduceIte, not_true_eq_false, not_false_eq_true]))
    all_goals first
      | (refine dF ?_; rw [hs]; rintro ⟨h, _⟩; unfold EvFine at h; omega)
      | (refine decide_eq_decide.mpr ?_; rw [hs]; exact ⟨fun h => ⟨by unfold EvFine; omega, h⟩, fun h => h.2⟩)
open Classical in
theorem impl_LogOk_ev (l : List S31) (hl : l.length ≤ 1048576) : Ev (fun k => impl_LogOk.f k l) (decide (l.length ≤ 2000 ∧ LogFrom l 0)) := by
  unfold impl_LogOk.f
  refine ite (fun h => ev (dF (by omega))) (fun h => eqv (impl_LogOk_loop l hl 0 (Nat.zero_le _)) (decide_eq_decide.mpr ⟨fun h => ⟨by omega, h⟩, fun h => h.2⟩))

def isA (a : Int) : Bool := decide (a = 3 ∨ a = 7 ∨ a = 8 ∨ a = 9)
theorem isA_ev (a : Int) : Ev (fun k => impl_isAnswer.f k a) (isA a) := by
  unfold impl_isAnswer.f
  exact bnd (contains_ev _ a (by simp)) (ev (by simp [isA]))
theorem l11_eq (a : Int) : spec_l11Answer.f a = some (isA a) := by
  unfold spec_l11Answer.f isA
  by_cases h : a = 3
  · rw [if_pos h, decide_eq_true (Or.inl h)]
  · rw [if_neg h, l01In_eq, Option.bind_some]
    exact congrArg some (decide_eq_decide.mpr (by omega))
def ans : List S31 → List Int → Bool
  | [], _ => true
  | e :: l, m => if isA e.f0 = true then (if Go.Proofs.Ytfnphdikfialnaa.Giv.lookB m e.f1 = true then false else ans l (e.f1 :: m)) else ans l m
theorem run_ev : ∀ (l : List S31) (m : List Int), Ev (fun k => impl_AnsweredOnce.run k l m) (ans l m)
  | [], _ => ev rfl
  | e :: l, m => by
    simp only [impl_AnsweredOnce.run, ans]
    refine bnd (isA_ev e.f0) ?_
    cases h : isA e.f0 with
    | true =>
      simp only [if_true]
      cases h2 : Go.Proofs.Ytfnphdikfialnaa.Giv.lookB m e.f1 with
      | true => simp only [if_true]; exact ev rfl
      | false => simp only [Bool.false_eq_true, if_false]; exact run_ev l _
    | false => simp only [Bool.false_eq_true, if_false]; exact run_ev l m
def hit (x : Int) (e : S31) : Bool := isA e.f0 && e.f1 == x
theorem ans_inner (l : List S31) (N : Nat) (hN : N < l.length) (hl : l.length ≤ 1048576) (V : Bool) (hv : Ev (fun k => spec_AnsweredOnce.l0 k l ((N + 1 : Nat) : Int)) V) : ∀ n, n ≤ N →
    Ev (fun k => spec_AnsweredOnce.l1 k l (N : Int) (n : Int)) (if isA l[N].f0 = true ∧ ((l.take N).drop n).any (hit l[N].f1) = true then false else V) := by
  have hw := wsucc hN (show l.length ≤ 9223372036854775807 by omega)
  refine down ?_ ?_
  · refine sh 1 ?_
    simp only [spec_AnsweredOnce.l1, Int.lt_irrefl, if_false, hw]
    exact eqv hv (by rw [List.drop_eq_nil_of_le (by rw [List.length_take]; omega)]; simp)
  · intro n hn ih
    have hnl : n < l.length := by omega
    have hd : (l.take N).drop n = l[n] :: (l.take N).drop (n + 1) := by rw [List.drop_eq_getElem_cons (by simp; omega)]; simp
    refine sh 1 ?_
    rw [hd]
    simp only [spec_AnsweredOnce.l1, lt_cast hn, lt_cast hN, lt_cast hnl, Int.natCast_nonneg, rdB_Event hN, rdB_Event hnl, wsucc hn (show N ≤ 9223372036854775807 by omega), if_true, l11_eq, Option.bind_some, List.any_cons]
    generalize l[N] = e0 at ih ⊢
    generalize l[n] = e
    cases h0 : isA e0.f0 with
    | false =>
      simp only [h0, Bool.false_eq_true, if_false, false_and] at ih ⊢
      exact ih
    | true =>
      simp only [h0, if_true, true_and] at ih ⊢
      cases h1 : isA e.f0 with
      | false =>
        have hh : hit e0.f1 e = false := by unfold hit; rw [h1]; rfl
        simp only [Bool.false_eq_true, if_false, hh, Bool.false_or]
        exact ih
      | true =>
        simp only [if_true]
        by_cases h2 : e0.f1 = e.f1
        · have hh : hit e0.f1 e = true := by unfold hit; rw [h1, h2]; simp
          simp only [if_pos h2, hh, Bool.true_or, if_true]
          exact ev rfl
        · have hh : hit e0.f1 e = false := by unfold hit; rw [h1]; simpa using Ne.symm h2
          simp only [if_neg h2, hh, Bool.false_or]
          exact ih
theorem ans_loop (l : List S31) (hl : l.length ≤ 1048576) : ∀ n, n ≤ l.length → ∀ m : List Int, (∀ x, Go.Proofs.Ytfnphdikfialnaa.Giv.lookB m x = (l.take n).any (hit x)) →
    Ev (fun k => spec_AnsweredOnce.l0 k l (n : Int)) (ans (l.drop n) m) := by
  refine down ?_ ?_
  · intro m hm
    refine sh 1 ?_
    simp only [spec_AnsweredOnce.l0, Int.lt_irrefl, if_false]
    exact ev (by rw [List.drop_eq_nil_of_le (Nat.le_refl _)]; rfl)
  · intro n hn ih m hm
    have hs : ∀ x, (l.take (n + 1)).any (hit x) = ((l.take n).any (hit x) || hit x l[n]) := by
      intro x; rw [List.take_succ_eq_append_getElem hn, List.any_append]; simp
    have hin := fun V hv => ans_inner l n hn hl V hv 0 (Nat.zero_le _)
    refine sh 1 ?_
    rw [List.drop_eq_getElem_cons hn]
    simp only [spec_AnsweredOnce.l0, lt_cast hn, if_true]
    generalize l[n] = e at hs hin ⊢
    simp only [List.drop_zero] at hin
    simp only [ans]
    cases h0 : isA e.f0 with
    | false =>
      simp only [h0, Bool.false_eq_true, if_false, false_and] at hin ⊢
      exact hin _ (ih m (fun x => by rw [hs, hm x]; unfold hit; rw [h0]; simp))
    | true =>
      simp only [h0, if_true, true_and] at hin ⊢
      rw [← hm] at hin
      refine hin _ (ih (e.f1 :: m) (fun x => ?_))
      rw [hs x, ← hm x]
      show (if e.f1 = x then true else Go.Proofs.Ytfnphdikfialnaa.Giv.lookB m x) = _
      unfold hit
      rw [h0]
      by_cases q : e.f1 = x
      · simp [q]
      · simp [q]
open Classical in
theorem spec_AnsweredOnce_ev (l : List S31) (hl : l.length ≤ 1048576) : Ev (fun k => spec_AnsweredOnce.f k l) (if l.length ≤ 2000 ∧ LogFrom l 0 then ans l [] else false) := by
  unfold spec_AnsweredOnce.f
  refine bnd (spec_LogOk_ev l hl) ?_
  by_cases h : l.length ≤ 2000 ∧ LogFrom l 0
  · simp only [decide_eq_true h, if_true, if_pos h]
    exact eqv (ans_loop l hl 0 (Nat.zero_le _) [] (fun x => by simp [Go.Proofs.Ytfnphdikfialnaa.Giv.lookB])) (by simp)
  · simp only [decide_eq_false h, if_neg h, Bool.false_eq_true, if_false]
    exact ev rfl
open Classical in
theorem impl_AnsweredOnce_ev (l : List S31) (hl : l.length ≤ 1048576) : Ev (fun k => impl_AnsweredOnce.f k l) (if l.length ≤ 2000 ∧ LogFrom l 0 then ans l [] else false) := by
  unfold impl_AnsweredOnce.f
  refine bnd (impl_LogOk_ev l hl) ?_
  by_cases h : l.length ≤ 2000 ∧ LogFrom l 0
  · have ha : impl_AnsweredOnce.fit l = true := by
      unfold impl_AnsweredOnce.fit
      rw [Bool.and_eq_true, List.all_eq_true]
      refine ⟨fun e he => ?_, decide_eq_true h.1⟩
      have hf := h.2 e (by simpa using he)
      unfold EvFine at hf
      unfold impl_AnsweredOnce.rng
      exact decide_eq_true (by omega)
    simp only [decide_eq_true h, if_true, if_pos h, ha]
    exact run_ev l []
  · simp only [decide_eq_false h, if_neg h, Bool.false_eq_true, if_false]
    exact ev rfl

theorem szEventS_small (l : List S33) (hl : l.length ≤ maxLen) : ∃ t, laws_szEventS.f l 1048576 = some t ∧ (¬ t < 0 → l.length ≤ 1048576) := by
  unfold laws_szEventS.f maxLen at *
  split
  · exact ⟨_, rfl, fun h => absurd (by decide) h⟩
  · next h => refine ⟨_, rfl, fun _ => ?_⟩; unfold wrap64 at h; omega

/-- The shell of a law over a log: both sides answer alike. -/
theorem mapEv_len {l : List S33} (h : l.length ≤ 1048576) : (l.map cvEvent).length ≤ 1048576 := by rw [List.length_map]; exact h

theorem pure_holds : PureOf := by
  intro l hl
  refine Ev.rounds (g := fun k => laws_FnExactAnsweredOnce.f k l) ?_
  unfold laws_FnExactAnsweredOnce.f
  obtain ⟨t, ht, hs⟩ := szEventS_small l hl.1
  simp only [ht, Option.bind_some]
  refine ite (fun h => ev rfl) (fun h => ?_)
  have hb := hs h
  have hb2 := mapEv_len hb
  have h1 := spec_AnsweredOnce_ev _ hb2
  have h2 := impl_AnsweredOnce_ev _ hb2
  have he := eqEventS_ev _ (show (l.map cvEvent).length ≤ 9223372036854775807 by omega)
  repeat' (first | exact ev rfl | (refine ite (fun h => absurd h (by omega)) (fun _ => ?_)) | (refine ite (fun _ => ?_) (fun h => absurd rfl h)) | refine bnd (toEventS_ev l hb) ?_ | refine bnd (h1) ?_ | refine bnd (h2) ?_ | refine bnd (he) ?_ | simp only [laws_FnExactAnsweredOnce.f, if_true, bne_self_eq_false, Bool.false_eq_true, if_false, Option.bind_some, Bool.not_true, Bool.not_false] | (refine sh 1 ?_; simp only [laws_FnExactAnsweredOnce.f, if_true, bne_self_eq_false, Bool.false_eq_true, if_false, Option.bind_some, Bool.not_true, Bool.not_false]))

end Go.Proofs.Ytfnphdikfialnaa.PFnExactAnsweredOnce
