/- The pure statement of FnExactFreshConns: the program's FreshConns answers what the reference's answers, for every input. -/
import Derived.Test.YtciehpgbhfngiaaPFnExactFreshConnsx0
import Derived.Test.YtciehpgbhfngiaaPFnExactFreshConnsx1
import Derived.Test.YtciehpgbhfngiaaPFnExactFreshConnsx2
import Derived.Test.YtciehpgbhfngiaaPFnExactFreshConnsx3
import Derived.Test.YtciehpgbhfngiaaPFnExactFreshConnsx4
import Derived.Test.YtciehpgbhfngiaaPFnExactFreshConnsx5
import Derived.Test.YtciehpgbhfngiaaPFnExactFreshConnsx6
import Derived.Test.YtciehpgbhfngiaaAid
import Derived.Test.YtciehpgbhfngiaaGFnExactFreshConns
namespace Go.Proofs.Ytciehpgbhfngiaa.PFnExactFreshConns
open Go.RowKit Go.Proofs.YtciehpgbhfngiaaW.PrintWords Go.Proofs.YtciehpgbhfngiaaW.PrintLast Go.Proofs.Ytciehpgbhfngiaa.Opn Go.Proofs.Ytciehpgbhfngiaa.Aid
set_option linter.unusedVariables false
set_option linter.unusedSimpArgs false

def PureOf : Prop := ∀ (l0 : List (S35)), (l0.length ≤ maxLen ∧ ∀ y2 ∈ l0, G35 y2) → ∃ k, laws_FnExactFreshConns.f k l0 = some true
theorem l01In_eq (a b c : Int) : spec_l01In.f a b c = some (decide (b ≤ a ∧ a ≤ c)) := by
  unfold spec_l01In.f; split <;> simp [*]
theorem in_eq (a b c : Int) : impl_in.f a b c = some (decide (b ≤ a ∧ a ≤ c)) := by
  unfold impl_in.f; split
  · simp_all
  · next h => simp; omega

theorem spec_TickOk_eq (a : Int) : spec_TickOk.f a = some (decide (0 ≤ a ∧ a ≤ 1000000000)) := by
  unfold spec_TickOk.f; rw [l01In_eq]; rfl

theorem l01Has_loop (l : List Int) (x : Int) (hl : l.length ≤ 9223372036854775807) : ∀ n, n ≤ l.length → Ev (fun k => spec_l01Has.l0 k l x (n : Int)) (decide (x ∈ l.drop n)) := by
  refine down ?_ ?_
  · refine sh 1 ?_
    simp only [spec_l01Has.l0, Int.lt_irrefl, if_false]
    exact ev (by simp)
  · intro n hn ih
    refine sh 1 ?_
    simp only [spec_l01Has.l0, lt_cast hn, Int.natCast_nonneg, if_true, wsucc hn hl, rd_get hn]
    rw [drop_cons hn]
    refine ite (fun h => ev ?_) (fun h => eqv ih ?_)
    · exact dT (by rw [← h]; exact List.mem_cons_self)
    · exact decide_eq_decide.mpr ⟨fun hm => List.mem_cons_of_mem _ hm, fun hm => (List.mem_cons.mp hm).resolve_left (fun e => h e.symm)⟩
theorem l01Has_ev (l : List Int) (x : Int) (hl : l.length ≤ 9223372036854775807) : Ev (fun k => spec_l01Has.f k l x) (decide (x ∈ l)) := by
  unfold spec_l01Has.f
  exact eqv (l01Has_loop l x hl 0 (Nat.zero_le _)) (by simp)

theorem index_loop (l : List Int) (x : Int) (hl : l.length ≤ 9223372036854775807) : ∀ n, n ≤ l.length → Ev (fun k => slices_Index_int_int.l0 k l x (l.length : Int) (n : Int)) (if x ∈ l.drop n then ((n + (l.drop n).idxOf x : Nat) : Int) else -1) := by
  refine down ?_ ?_
  · refine sh 1 ?_
    simp only [slices_Index_int_int.l0, Int.lt_irrefl, if_false]
    exact ev (by simp)
  · intro n hn ih
    refine sh 1 ?_
    simp only [slices_Index_int_int.l0, lt_cast hn, Int.natCast_nonneg, if_true, wsucc hn hl, rd_get hn]
    rw [drop_cons hn]
    refine ite (fun h => ev ?_) (fun h => eqv ih ?_)
    · rw [← h, if_pos List.mem_cons_self, List.idxOf_cons_self]; simp
    · have h2 : ¬ l[n] = x := fun e => h e.symm
      by_cases hm : x ∈ l.drop (n + 1)
      · rw [if_pos hm, if_pos (List.mem_cons_of_mem _ hm), List.idxOf_cons, show (l[n] == x) = false from beq_eq_false_iff_ne.mpr h2, cond_false]; omega
      · rw [if_neg hm, if_neg (fun hc => hm ((List.mem_cons.mp hc).resolve_left h))]
theorem index_ev (l : List Int) (x : Int) (hl : l.length ≤ 9223372036854775807) : Ev (fun k => slices_Index_int_int.f k l x) (if x ∈ l then (l.idxOf x : Int) else -1) := by
  unfold slices_Index_int_int.f
  exact eqv (index_loop l x hl 0 (Nat.zero_le _)) (by simp)
theorem contains_ev (l : List Int) (x : Int) (hl : l.length ≤ 9223372036854775807) : Ev (fun k => slices_Contains_int_int.f k l x) (decide (x ∈ l)) := by
  unfold slices_Contains_int_int.f
  refine bnd (index_ev l x hl) (ev ?_)
  by_cases h : x ∈ l
  · simp only [h, if_true, decide_true]; exact decide_eq_true (by omega)
  · simp only [h, if_false, decide_false]; rfl

theorem rdB_Event {l : List S30} {n : Nat} (h : n < l.length) : rd_T30 l (n : Int) = l[n] := by unfold rd_T30; rw [Int.toNat_natCast]; exact getD_get _ h
theorem eqEvent_self (x : S30) : laws_eqEvent.f x.f0 x.f1 x.f2 x.f0 x.f1 x.f2 = some true := by unfold laws_eqEvent.f; simp
theorem eqEventS_loop (l : List S30) (hl : l.length ≤ 9223372036854775807) : ∀ n, n ≤ l.length → Ev (fun k => laws_eqEventS.l0 k l l (n : Int)) true := by
  refine down ?_ ?_
  · refine sh 1 ?_
    simp only [laws_eqEventS.l0, Int.lt_irrefl, if_false]
    exact ev rfl
  · intro n hn ih
    refine sh 1 ?_
    simp only [laws_eqEventS.l0, lt_cast hn, Int.natCast_nonneg, if_true, wsucc hn hl, eqEvent_self, Option.bind_some]
    exact ih
theorem eqEventS_ev (l : List S30) (hl : l.length ≤ 9223372036854775807) : Ev (fun k => laws_eqEventS.f k l l) true := by
  unfold laws_eqEventS.f
  simp only [if_true]
  exact eqEventS_loop l hl 0 (Nat.zero_le _)

def cvEvent (x : S35) : S30 := ⟨x.f0, x.f1, x.f2⟩
theorem rdA_Event {l : List S35} {n : Nat} (h : n < l.length) : rd_T35 l (n : Int) = l[n] := by unfold rd_T35; rw [Int.toNat_natCast]; exact getD_get _ h
theorem toEventS_loop (l : List S35) (hl : l.length ≤ 9223372036854775807) : ∀ n, n ≤ l.length → ∀ acc : List S30, acc.length = l.length →
    Ev (fun k => laws_toEventS.l0 k l acc (n : Int)) (acc.take n ++ (l.drop n).map cvEvent) := by
  refine down ?_ ?_
  · intro acc ha
    refine sh 1 ?_
    simp only [laws_toEventS.l0, Int.lt_irrefl, if_false]
    exact ev (by simp [← ha])
  · intro n hn ih acc ha
    refine sh 1 ?_
    simp only [laws_toEventS.l0, laws_toEvent.f, lt_cast hn, ha, Int.natCast_nonneg, if_true, wsucc hn hl, Int.toNat_natCast, rdA_Event hn, Option.bind_some]
    refine eqv (ih (acc.set n (cvEvent l[n])) (by simp [ha])) ?_
    rw [take_set (by omega), drop_cons hn, List.map_cons, List.append_assoc]; rfl
theorem toEventS_ev (l : List S35) (hl : l.length ≤ 1048576) : Ev (fun k => laws_toEventS.f k l) (l.map cvEvent) := by
  unfold laws_toEventS.f
  simp only [Int.natCast_nonneg, if_true, Int.toNat_natCast]
  refine ite (fun _ => ?_) (fun h => absurd (show l.length ≤ 1099511627776 by omega) (by omega))
  exact eqv (toEventS_loop l (by omega) 0 (Nat.zero_le _) (List.replicate l.length z30) (by simp)) (by simp)

theorem hasT_ev (a : Int) : Ev (fun k => spec_l01Has.f k ([3, 4, 7, 8, 9, 10] : List Int) a) (decide (a = 3 ∨ a = 4 ∨ a = 7 ∨ a = 8 ∨ a = 9 ∨ a = 10)) :=
  eqv (l01Has_ev _ a (by simp)) (by simp)
theorem hasTicket_ev (a : Int) : Ev (fun k => impl_hasTicket.f k a) (decide (a = 3 ∨ a = 4 ∨ a = 7 ∨ a = 8 ∨ a = 9 ∨ a = 10)) := by
  unfold impl_hasTicket.f
  exact bnd (contains_ev _ a (by simp)) (ev (by simp))
theorem hasConn_eq (a : Int) : impl_hasConn.f a = some (decide ((0 ≤ a ∧ a ≤ 6) ∨ a = 10)) := by
  unfold impl_hasConn.f
  simp only [in_eq, Option.bind_some, decide_eq_true_eq, Bool.not_eq_true', Bool.not_eq_true, decide_eq_false_iff_not, beq_iff_eq, bne_iff_ne, ne_eq, Bool.false_eq_true, Bool.true_eq_false, eq_self_iff_true, if_true, if_false, reduceIte, not_true_eq_false, not_false_eq_true]
  split
  · congr 1; exact (decide_eq_true (by omega)).symm
  · congr 1; rw [Bool.eq_iff_iff]; simp; omega
def EvFine (a b c : Int) : Prop := (0 ≤ a ∧ a ≤ 11) ∧ (0 ≤ b ∧ b ≤ 1000000000) ∧ (0 ≤ c ∧ c ≤ 1000000000) ∧ ((a ≤ 6 ∨ a = 10) → 1 ≤ c) ∧
  ((a = 3 ∨ a = 4 ∨ a = 7 ∨ a = 8 ∨ a = 9 ∨ a = 10) → 1 ≤ b) ∧ (¬ (a = 3 ∨ a = 4 ∨ a = 7 ∨ a = 8 ∨ a = 9 ∨ a = 10) → a ≠ 5 → b = 0) ∧ ((7 ≤ a ∧ a ≤ 9) → c = 0) ∧ (a = 11 → c ≤ 3)
def LogFrom (l : List S30) (n : Nat) : Prop := ∀ e ∈ l.drop n, EvFine e.f0 e.f1 e.f2
theorem logFrom_step {l : List S30} {n : Nat} (hn : n < l.length) : LogFrom l n ↔ EvFine l[n].f0 l[n].f1 l[n].f2 ∧ LogFrom l (n + 1) := by
  unfold LogFrom; rw [drop_cons hn, List.forall_mem_cons]
open Classical in
theorem spec_LogOk_loop (l : List S30) (hl : l.length ≤ 1048576) : ∀ n, n ≤ l.length → Ev (fun k => spec_LogOk.l0 k l (n : Int)) (decide (LogFrom l n)) := by
  refine down ?_ ?_
  · refine sh 1 ?_
    simp only [spec_LogOk.l0, Int.lt_irrefl, if_false]
    exact ev (dT (by unfold LogFrom; simp))
  · intro n hn ih
    refine sh 1 ?_
    have hs := logFrom_step hn
    have hw : wrap64 ((n : Int) + 1) = ((n + 1 : Nat) : Int) := wsucc hn (by omega)
    simp only [spec_LogOk.l0, lt_cast hn, Int.natCast_nonneg, rdB_Event hn, l01In_eq, spec_TickOk_eq, Option.bind_some, decide_eq_true_eq, Bool.not_eq_true', Bool.not_eq_true, decide_eq_false_iff_not, beq_iff_eq, bne_iff_ne, ne_eq, Bool.false_eq_true, Bool.true_eq_false, eq_self_iff_true, if_true, if_false, reduceIte, not_true_eq_false, not_false_eq_true]
    generalize l[n].f0 = a at hs ⊢
    generalize l[n].f1 = b at hs ⊢
    generalize l[n].f2 = c at hs ⊢
    repeat' (first | refine ite (fun _ => ?_) (fun _ => ?_) | refine ev ?_ | (refine bnd (hasT_ev _) ?_; (try simp only [Option.bind_some, decide_eq_true_eq, Bool.not_eq_true', Bool.not_eq_true, decide_eq_false_iff_not, beq_iff_eq, bne_iff_ne, ne_eq, Bool.false_eq_true, Bool.true_eq_false, eq_self_iff_true, if_true, if_false, reduceIte, not_true_eq_false, not_false_eq_true])) | refine eqv ih ?_ | (refine sh 1 ?_; simp only [spec_LogOk.j1, spec_LogOk.j2, spec_LogOk.j3, spec_LogOk.j4, l01In_eq, hw, Option.bind_some, decide_eq_true_eq, Bool.not_eq_true', Bool.not_eq_true, decide_eq_false_iff_not, beq_iff_eq, bne_iff_ne, ne_eq, Bool.false_eq_true, Bool.true_eq_false, eq_self_iff_true, if_true, if_false, reduceIte, not_true_eq_false, not_false_eq_true]))
    all_goals first
      | (refine dF ?_; rw [hs]; rintro ⟨h, _⟩; unfold EvFine at h; omega)
      | (refine decide_eq_decide.mpr ?_; rw [hs]; exact ⟨fun h => ⟨by unfold EvFine; omega, h⟩, fun h => h.2⟩)
open Classical in
theorem spec_LogOk_ev (l : List S30) (hl : l.length ≤ 1048576) : Ev (fun k => spec_LogOk.f k l) (decide (l.length ≤ 2000 ∧ LogFrom l 0)) := by
  unfold spec_LogOk.f
  refine ite (fun h => ev (dF (by omega))) (fun h => eqv (spec_LogOk_loop l hl 0 (Nat.zero_le _)) (decide_eq_decide.mpr ⟨fun h => ⟨by omega, h⟩, fun h => h.2⟩))
open Classical in
theorem impl_LogOk_loop (l : List S30) (hl : l.length ≤ 1048576) : ∀ n, n ≤ l.length → Ev (fun k => impl_LogOk.l0 k l (l.length : Int) (n : Int)) (decide (LogFrom l n)) := by
  refine down ?_ ?_
  · refine sh 1 ?_
    simp only [impl_LogOk.l0, Int.lt_irrefl, if_false]
    exact ev (dT (by unfold LogFrom; simp))
  · intro n hn ih
    refine sh 1 ?_
    have hs := logFrom_step hn
    have hw : wrap64 ((n : Int) + 1) = ((n + 1 : Nat) : Int) := wsucc hn (by omega)
    simp only [impl_LogOk.l0, lt_cast hn, Int.natCast_nonneg, rdB_Event hn, Option.bind_some, decide_eq_true_eq, Bool.not_eq_true', Bool.not_eq_true, decide_eq_false_iff_not, beq_iff_eq, bne_iff_ne, ne_eq, Bool.false_eq_true, Bool.true_eq_false, eq_self_iff_true, if_true, if_false, reduceIte, not_true_eq_false, not_false_eq_true]
    generalize l[n].f0 = a at hs ⊢
    generalize l[n].f1 = b at hs ⊢
    generalize l[n].f2 = c at hs ⊢
    repeat' (first | refine ite (fun _ => ?_) (fun _ => ?_) | refine ev ?_ | (refine bnd (hasTicket_ev _) ?_; (try simp only [Option.bind_some, decide_eq_true_eq, Bool.not_eq_true', Bool.not_eq_true, decide_eq_false_iff_not, beq_iff_eq, bne_iff_ne, ne_eq, Bool.false_eq_true, Bool.true_eq_false, eq_self_iff_true, if_true, if_false, reduceIte, not_true_eq_false, not_false_eq_true])) | refine eqv ih ?_ | (refine sh 1 ?_; simp only [impl_LogOk.j1, impl_LogOk.j2, impl_LogOk.j3, impl_LogOk.j4, in_eq, hasConn_eq, hw, Option.bind_some, decide_eq_true_eq, Bool.not_eq_true', Bool.not_eq_true, decide_eq_false_iff_not, beq_iff_eq, bne_iff_ne, ne_eq, Bool.false_eq_true, Bool.true_eq_false, eq_self_iff_true, if_true, if_false, reduceIte, not_true_eq_false, not_false_eq_true]))
    all_goals first
      | (refine dF ?_; rw [hs]; rintro ⟨h, _⟩; unfold EvFine at h; omega)
      | (refine decide_eq_decide.mpr ?_; rw [hs]; exact ⟨fun h => ⟨by unfold EvFine; omega, h⟩, fun h => h.2⟩)
open Classical in
theorem impl_LogOk_ev (l : List S30) (hl : l.length ≤ 1048576) : Ev (fun k => impl_LogOk.f k l) (decide (l.length ≤ 2000 ∧ LogFrom l 0)) := by
  unfold impl_LogOk.f
  refine ite (fun h => ev (dF (by omega))) (fun h => eqv (impl_LogOk_loop l hl 0 (Nat.zero_le _)) (decide_eq_decide.mpr ⟨fun h => ⟨by omega, h⟩, fun h => h.2⟩))

def stat (c : Int) : List S30 → Int → Int
  | [], a => a
  | e :: l, a => stat c l (if e.f2 = c then (if e.f0 = 0 then 1 else if e.f0 = 1 then 2 else if e.f0 = 2 then 3 else if e.f0 = 5 then 3 else a) else a)
theorem stat_snoc (c : Int) (e : S30) : ∀ (l : List S30) (a : Int), stat c (l ++ [e]) a = (if e.f2 = c then (if e.f0 = 0 then 1 else if e.f0 = 1 then 2 else if e.f0 = 2 then 3 else if e.f0 = 5 then 3 else stat c l a) else stat c l a)
  | [], _ => rfl
  | x :: l, a => by simp only [List.cons_append, stat]; exact stat_snoc c e l _
theorem stat_range (c : Int) : ∀ (l : List S30) (a : Int), 0 ≤ a ∧ a ≤ 3 → 0 ≤ stat c l a ∧ stat c l a ≤ 3
  | [], _, h => h
  | x :: l, a, h => by
    simp only [stat]
    refine stat_range c l _ ?_
    split
    · split
      · omega
      · split
        · omega
        · split
          · omega
          · split
            · omega
            · exact h
    · exact h
/-- What the reference answers at an event of kind a and connection c, st what stood of c: none if it says no, else the new last. -/
def chk (a c st la : Int) : Option Int :=
  if a = 0 then (if st = 0 then (if c ≤ la then none else some c) else none) else (if a = 1 ∨ a = 2 then (if st = 1 then some la else none) else (if a = 3 ∨ a = 6 then (if st = 2 then some la else none) else (if st = 0 then none else (if st = 3 then none else some la))))
theorem fresh_inner (l : List S30) (N : Nat) (hN : N < l.length) (hl : l.length ≤ 1048576) (la a b c S : Int) (r : Bool) (h1 : chk a c S la = none → r = false)
    (h2 : ∀ la', chk a c S la = some la' → Ev (fun k => spec_FreshConns.l0 k l la' ((N + 1 : Nat) : Int)) r) : ∀ n, n ≤ N → ∀ st, stat c ((l.take N).drop n) st = S → Ev (fun k => spec_FreshConns.l1 k l la (N : Int) st (n : Int) a b c) r := by
  have hw := wsucc hN (show l.length ≤ 9223372036854775807 by omega)
  refine down ?_ ?_
  · intro st hS
    rw [List.drop_eq_nil_of_le (by rw [List.length_take]; omega)] at hS
    simp only [stat] at hS
    subst hS
    refine sh 1 ?_
    simp only [spec_FreshConns.l1, Int.lt_irrefl, if_false, hw]
    simp only [chk] at h1 h2
    by_cases h0 : a = 0
    · simp only [if_pos h0] at h1 h2 ⊢
      by_cases s0 : st = 0
      · simp only [if_pos s0] at h1 h2 ⊢
        by_cases hc : c ≤ la
        · simp only [if_pos hc] at h1 h2 ⊢; exact ev (h1 (by simp)).symm
        · simp only [if_neg hc] at h1 h2 ⊢; exact h2 _ rfl
      · simp only [if_neg s0] at h1 h2 ⊢; exact ev (h1 (by simp)).symm
    · simp only [if_neg h0] at h1 h2 ⊢
      have j4 : ¬ (a = 1 ∨ a = 2) → ∀ f : Bool, f = decide (a = 3 ∨ a = 6) → Ev (fun k => spec_FreshConns.j4 k l la (N : Int) st f) r := by
        intro hn f hf
        simp only [if_neg hn] at h1 h2
        refine sh 1 ?_
        simp only [spec_FreshConns.j4, hw, hf, decide_eq_true_eq]
        by_cases h3 : a = 3 ∨ a = 6
        · simp only [if_pos h3] at h1 h2 ⊢
          by_cases s2 : st = 2
          · simp only [if_pos s2] at h1 h2 ⊢; exact h2 _ rfl
          · simp only [if_neg s2] at h1 h2 ⊢; exact ev (h1 (by simp)).symm
        · simp only [if_neg h3] at h1 h2 ⊢
          by_cases s0 : st = 0
          · simp only [if_pos s0] at h1 h2 ⊢; exact ev (h1 (by simp)).symm
          · simp only [if_neg s0] at h1 h2 ⊢
            by_cases s3 : st = 3
            · simp only [if_pos s3] at h1 h2 ⊢; exact ev (h1 (by simp)).symm
            · simp only [if_neg s3] at h1 h2 ⊢; exact h2 _ rfl
      have j3 : ∀ f : Bool, f = decide (a = 1 ∨ a = 2) → Ev (fun k => spec_FreshConns.j3 k l la (N : Int) st a f) r := by
        intro f hf
        refine sh 1 ?_
        simp only [spec_FreshConns.j3, hw, hf, decide_eq_true_eq]
        by_cases h1' : a = 1 ∨ a = 2
        · simp only [if_pos h1'] at h1 h2 ⊢
          by_cases s1 : st = 1
          · simp only [if_pos s1] at h1 h2 ⊢; exact h2 _ rfl
          · simp only [if_neg s1] at h1 h2 ⊢; exact ev (h1 (by simp)).symm
        · simp only [if_neg h1']
          by_cases h3 : a = 3
          · simp only [if_pos h3]; exact j4 h1' _ (by subst h3; decide)
          · simp only [if_neg h3]
            exact j4 h1' _ (by rw [Bool.eq_iff_iff]; simp [h3])
      by_cases h1' : a = 1
      · simp only [if_pos h1']; exact j3 _ (by subst h1'; decide)
      · simp only [if_neg h1']
        exact j3 _ (by rw [Bool.eq_iff_iff]; simp [h1'])
  · intro n hn ih st hS
    have hnl : n < l.length := by omega
    have hd : (l.take N).drop n = l[n] :: (l.take N).drop (n + 1) := by rw [List.drop_eq_getElem_cons (by simp; omega)]; simp
    refine sh 1 ?_
    rw [hd] at hS
    simp only [spec_FreshConns.l1, lt_cast hn, lt_cast hnl, Int.natCast_nonneg, rdB_Event hnl, wsucc hn (show N ≤ 9223372036854775807 by omega), if_true]
    simp only [stat] at hS
    generalize l[n] = e at hS ⊢
    by_cases q : e.f2 = c
    · simp only [if_pos q] at hS ⊢
      by_cases q0 : e.f0 = 0
      · simp only [if_pos q0] at hS ⊢; exact ih _ hS
      · simp only [if_neg q0] at hS ⊢
        by_cases q1 : e.f0 = 1
        · simp only [if_pos q1] at hS ⊢; exact ih _ hS
        · simp only [if_neg q1] at hS ⊢
          by_cases q2 : e.f0 = 2
          · simp only [if_pos q2] at hS ⊢; exact ih _ hS
          · simp only [if_neg q2] at hS ⊢
            by_cases q5 : e.f0 = 5
            · simp only [if_pos q5] at hS ⊢; exact ih _ hS
            · simp only [if_neg q5] at hS ⊢; exact ih _ hS
    · simp only [if_neg q] at hS ⊢; exact ih _ hS
theorem fresh_loop (l : List S30) (hl : l.length ≤ 1048576) : ∀ n, n ≤ l.length → ∀ (la : Int) (m : List (Int × Int)), (∀ c, Go.Proofs.Ytciehpgbhfngiaa.Giv.lookT m c = stat c (l.take n) 0) → (∀ c, Go.Proofs.Ytciehpgbhfngiaa.Giv.lookT m c ≠ 0 → c ≤ la) →
    (∀ e ∈ l.drop n, 0 ≤ e.f0 ∧ e.f0 ≤ 11) → Ev (fun k => spec_FreshConns.l0 k l la (n : Int)) (impl_FreshConns.run (l.drop n) la m) := by
  refine down ?_ ?_
  · intro la m hm hlast _
    refine sh 1 ?_
    simp only [spec_FreshConns.l0, Int.lt_irrefl, if_false]
    exact ev (by rw [List.drop_eq_nil_of_le (Nat.le_refl _)]; rfl)
  · intro n hn ih la m hm hlast hk
    have hs : ∀ c, stat c (l.take (n + 1)) 0 = (if l[n].f2 = c then (if l[n].f0 = 0 then 1 else if l[n].f0 = 1 then 2 else if l[n].f0 = 2 then 3 else if l[n].f0 = 5 then 3 else stat c (l.take n) 0) else stat c (l.take n) 0) := by
      intro c; rw [List.take_succ_eq_append_getElem hn, stat_snoc]
    rw [List.drop_eq_getElem_cons hn] at hk ⊢
    have hr := hk _ List.mem_cons_self
    replace hk := fun e he => hk e (List.mem_cons_of_mem _ he)
    refine sh 1 ?_
    simp only [spec_FreshConns.l0, lt_cast hn, Int.natCast_nonneg, rdB_Event hn, if_true]
    have hw := wsucc hn (show l.length ≤ 9223372036854775807 by omega)
    generalize l[n] = e at hs hr ⊢
    obtain ⟨a, b, c⟩ := e
    dsimp only at hs hr ⊢
    have hst := stat_range c (l.take n) 0 (by omega)
    rw [← hm c] at hst
    have nx : ∀ (m' : List (Int × Int)), (∀ x, Go.Proofs.Ytciehpgbhfngiaa.Giv.lookT m' x = stat x (l.take (n + 1)) 0) → ∀ la', (∀ x, Go.Proofs.Ytciehpgbhfngiaa.Giv.lookT m' x ≠ 0 → x ≤ la') → Ev (fun k => spec_FreshConns.l0 k l la' ((n + 1 : Nat) : Int)) (impl_FreshConns.run (l.drop (n + 1)) la' m') := fun m' h la' h2 => ih la' m' h h2 hk
    generalize l.drop (n + 1) = rest at nx ⊢
    have go : ∀ f : Bool, f = decide (6 < a ∧ a ≠ 10) → Ev (fun k => spec_FreshConns.j1 k l la (n : Int) f a b c) (impl_FreshConns.run (⟨a, b, c⟩ :: rest) la m) := by
      intro f hf
      refine sh 1 ?_
      simp only [spec_FreshConns.j1, hw, hf, decide_eq_true_eq]
      by_cases hc : 6 < a ∧ a ≠ 10
      · have h0 : impl_FreshConns.hc a = false := by unfold impl_FreshConns.hc; simp; omega
        simp only [if_pos hc, impl_FreshConns.run, h0, Bool.false_eq_true, if_false]
        refine nx m (fun x => ?_) la hlast
        rw [hs x, if_neg (show ¬ a = 0 by omega), if_neg (show ¬ a = 1 by omega), if_neg (show ¬ a = 2 by omega), if_neg (show ¬ a = 5 by omega), ite_self, hm]
      · simp only [if_neg hc]
        have put : ∀ (z : Int), (if a = 0 then 1 else if a = 1 then 2 else if a = 2 then 3 else if a = 5 then 3 else Go.Proofs.Ytciehpgbhfngiaa.Giv.lookT m c) = z → ∀ x, Go.Proofs.Ytciehpgbhfngiaa.Giv.lookT ((c, z) :: m) x = stat x (l.take (n + 1)) 0 := by
          intro z hz x
          show (if c = x then z else Go.Proofs.Ytciehpgbhfngiaa.Giv.lookT m x) = _
          rw [hs x, ← hm x]
          by_cases e : c = x
          · subst e; rw [if_pos rfl, if_pos rfl, hz]
          · rw [if_neg e, if_neg e]
        have keep : (a = 3 ∨ a = 4 ∨ a = 6 ∨ a = 10) → ∀ x, Go.Proofs.Ytciehpgbhfngiaa.Giv.lookT m x = stat x (l.take (n + 1)) 0 := fun h x => by
          rw [hs x, if_neg (show ¬ a = 0 by omega), if_neg (show ¬ a = 1 by omega), if_neg (show ¬ a = 2 by omega), if_neg (show ¬ a = 5 by omega), ite_self, hm]
        have lastK : ∀ z, Go.Proofs.Ytciehpgbhfngiaa.Giv.lookT m c ≠ 0 → ∀ x, Go.Proofs.Ytciehpgbhfngiaa.Giv.lookT ((c, z) :: m) x ≠ 0 → x ≤ la := by
          intro z h x hx
          replace hx : (if c = x then z else Go.Proofs.Ytciehpgbhfngiaa.Giv.lookT m x) ≠ 0 := hx
          by_cases e : c = x
          · subst e; exact hlast c h
          · rw [if_neg e] at hx; exact hlast x hx
        have inner := fun (r : Bool) h1 h2 => fresh_inner l n hn hl la a b c (Go.Proofs.Ytciehpgbhfngiaa.Giv.lookT m c) r h1 h2 0 (Nat.zero_le _) 0 (by rw [List.drop_zero, hm])
        have no : chk a c (Go.Proofs.Ytciehpgbhfngiaa.Giv.lookT m c) la = none → impl_FreshConns.run (⟨a, b, c⟩ :: rest) la m = false → Ev (fun k => spec_FreshConns.l1 k l la (n : Int) 0 0 a b c) (impl_FreshConns.run (⟨a, b, c⟩ :: rest) la m) := fun e1 e2 =>
          inner _ (fun _ => e2) (fun la' h => by rw [e1] at h; cases h)
        have yes : ∀ la2 m2, chk a c (Go.Proofs.Ytciehpgbhfngiaa.Giv.lookT m c) la = some la2 → impl_FreshConns.run (⟨a, b, c⟩ :: rest) la m = impl_FreshConns.run rest la2 m2 → (∀ x, Go.Proofs.Ytciehpgbhfngiaa.Giv.lookT m2 x = stat x (l.take (n + 1)) 0) → (∀ x, Go.Proofs.Ytciehpgbhfngiaa.Giv.lookT m2 x ≠ 0 → x ≤ la2) →
            Ev (fun k => spec_FreshConns.l1 k l la (n : Int) 0 0 a b c) (impl_FreshConns.run (⟨a, b, c⟩ :: rest) la m) := fun la2 m2 e1 e2 e3 e4 =>
          inner _ (fun h => by rw [e1] at h; cases h) (fun la' h => by rw [e1] at h; cases h; rw [e2]; exact nx m2 e3 la2 e4)
        by_cases k0 : a = 0
        · subst k0
          by_cases hcl : c ≤ la
          · exact no (by simp only [chk, if_true, if_pos hcl, ite_self]) (by simp [impl_FreshConns.run, show impl_FreshConns.hc 0 = true by decide, hcl])
          · have S0 : Go.Proofs.Ytciehpgbhfngiaa.Giv.lookT m c = 0 := by
              by_cases h : Go.Proofs.Ytciehpgbhfngiaa.Giv.lookT m c = 0
              · exact h
              · exact absurd (hlast c h) hcl
            refine yes c ((c, 1) :: m) (by simp [chk, S0, hcl]) (by simp [impl_FreshConns.run, show impl_FreshConns.hc 0 = true by decide, hcl]) (put 1 (by simp)) (fun x hx => ?_)
            replace hx : (if c = x then 1 else Go.Proofs.Ytciehpgbhfngiaa.Giv.lookT m x) ≠ 0 := hx
            by_cases e : c = x
            · omega
            · rw [if_neg e] at hx; have := hlast x hx; omega
        · have hS : Go.Proofs.Ytciehpgbhfngiaa.Giv.lookT m c = 0 ∨ Go.Proofs.Ytciehpgbhfngiaa.Giv.lookT m c = 1 ∨ Go.Proofs.Ytciehpgbhfngiaa.Giv.lookT m c = 2 ∨ Go.Proofs.Ytciehpgbhfngiaa.Giv.lookT m c = 3 := by omega
          have hk7 : a = 1 ∨ a = 2 ∨ a = 3 ∨ a = 4 ∨ a = 5 ∨ a = 6 ∨ a = 10 := by omega
          clear hs hm inner nx ih
          have tw : ∀ x, Go.Proofs.Ytciehpgbhfngiaa.Giv.lookT ((c, 3) :: (c, 2) :: m) x = Go.Proofs.Ytciehpgbhfngiaa.Giv.lookT ((c, 3) :: m) x := (fun x => show (if c = x then 3 else if c = x then 2 else Go.Proofs.Ytciehpgbhfngiaa.Giv.lookT m x) = (if c = x then 3 else Go.Proofs.Ytciehpgbhfngiaa.Giv.lookT m x) by by_cases e : c = x <;> simp [e])
          rcases hk7 with e | e | e | e | e | e | e <;> subst e <;> rcases hS with h | h | h | h
          · exact no (by simp [chk, h]) (by simp [impl_FreshConns.run, impl_FreshConns.hc, h])
          · exact yes la ((c, 2) :: m) (by simp [chk, h]) (by simp [impl_FreshConns.run, impl_FreshConns.hc, h]) (put 2 (by simp)) (lastK 2 (by rw [h]; decide))
          · exact no (by simp [chk, h]) (by simp [impl_FreshConns.run, impl_FreshConns.hc, h])
          · exact no (by simp [chk, h]) (by simp [impl_FreshConns.run, impl_FreshConns.hc, h])
          · exact no (by simp [chk, h]) (by simp [impl_FreshConns.run, impl_FreshConns.hc, h])
          · exact yes la ((c, 3) :: (c, 2) :: m) (by simp [chk, h]) (by simp [impl_FreshConns.run, impl_FreshConns.hc, h]) (fun x => (tw x).trans (put 3 (by simp) x)) (fun x hx => lastK 3 (by rw [h]; decide) x (by rw [tw] at hx; exact hx))
          · exact no (by simp [chk, h]) (by simp [impl_FreshConns.run, impl_FreshConns.hc, h])
          · exact no (by simp [chk, h]) (by simp [impl_FreshConns.run, impl_FreshConns.hc, h])
          · exact no (by simp [chk, h]) (by simp [impl_FreshConns.run, impl_FreshConns.hc, h])
          · exact no (by simp [chk, h]) (by simp [impl_FreshConns.run, impl_FreshConns.hc, h])
          · exact yes la m (by simp [chk, h]) (by simp [impl_FreshConns.run, impl_FreshConns.hc, h]) (keep (by decide)) hlast
          · exact no (by simp [chk, h]) (by simp [impl_FreshConns.run, impl_FreshConns.hc, h])
          · exact no (by simp [chk, h]) (by simp [impl_FreshConns.run, impl_FreshConns.hc, h])
          · exact yes la m (by simp [chk, h]) (by simp [impl_FreshConns.run, impl_FreshConns.hc, h]) (keep (by decide)) hlast
          · exact yes la m (by simp [chk, h]) (by simp [impl_FreshConns.run, impl_FreshConns.hc, h]) (keep (by decide)) hlast
          · exact no (by simp [chk, h]) (by simp [impl_FreshConns.run, impl_FreshConns.hc, h])
          · exact no (by simp [chk, h]) (by simp [impl_FreshConns.run, impl_FreshConns.hc, h])
          · exact yes la ((c, 3) :: m) (by simp [chk, h]) (by simp [impl_FreshConns.run, impl_FreshConns.hc, h]) (put 3 (by simp)) (lastK 3 (by rw [h]; decide))
          · exact yes la ((c, 3) :: m) (by simp [chk, h]) (by simp [impl_FreshConns.run, impl_FreshConns.hc, h]) (put 3 (by simp)) (lastK 3 (by rw [h]; decide))
          · exact no (by simp [chk, h]) (by simp [impl_FreshConns.run, impl_FreshConns.hc, h])
          · exact no (by simp [chk, h]) (by simp [impl_FreshConns.run, impl_FreshConns.hc, h])
          · exact no (by simp [chk, h]) (by simp [impl_FreshConns.run, impl_FreshConns.hc, h])
          · exact yes la m (by simp [chk, h]) (by simp [impl_FreshConns.run, impl_FreshConns.hc, h]) (keep (by decide)) hlast
          · exact no (by simp [chk, h]) (by simp [impl_FreshConns.run, impl_FreshConns.hc, h])
          · exact no (by simp [chk, h]) (by simp [impl_FreshConns.run, impl_FreshConns.hc, h])
          · exact yes la m (by simp [chk, h]) (by simp [impl_FreshConns.run, impl_FreshConns.hc, h]) (keep (by decide)) hlast
          · exact yes la m (by simp [chk, h]) (by simp [impl_FreshConns.run, impl_FreshConns.hc, h]) (keep (by decide)) hlast
          · exact no (by simp [chk, h]) (by simp [impl_FreshConns.run, impl_FreshConns.hc, h])
    by_cases h6 : a > 6
    · simp only [if_pos h6]; exact go _ (by rw [Bool.eq_iff_iff]; simp; omega)
    · simp only [if_neg h6]; exact go _ (by rw [Bool.eq_iff_iff]; simp; omega)
open Classical in
theorem spec_FreshConns_ev (l : List S30) (hl : l.length ≤ 1048576) : Ev (fun k => spec_FreshConns.f k l) (if l.length ≤ 2000 ∧ LogFrom l 0 then impl_FreshConns.run l 0 [] else false) := by
  unfold spec_FreshConns.f
  refine bnd (spec_LogOk_ev l hl) ?_
  by_cases h : l.length ≤ 2000 ∧ LogFrom l 0
  · simp only [decide_eq_true h, if_true, if_pos h]
    exact eqv (fresh_loop l hl 0 (Nat.zero_le _) 0 [] (fun c => by simp [stat, Go.Proofs.Ytciehpgbhfngiaa.Giv.lookT]) (fun c hc => absurd rfl hc) (fun e he => (h.2 e he).1)) (by simp)
  · simp only [decide_eq_false h, if_neg h, Bool.false_eq_true, if_false]
    exact ev rfl
open Classical in
theorem impl_FreshConns_ev (l : List S30) (hl : l.length ≤ 1048576) : Ev (fun k => impl_FreshConns.f k l) (if l.length ≤ 2000 ∧ LogFrom l 0 then impl_FreshConns.run l 0 [] else false) := by
  unfold impl_FreshConns.f
  refine bnd (impl_LogOk_ev l hl) ?_
  by_cases h : l.length ≤ 2000 ∧ LogFrom l 0
  · have ha : impl_FreshConns.fit l = true := by
      unfold impl_FreshConns.fit
      rw [Bool.and_eq_true, List.all_eq_true]
      refine ⟨fun e he => ?_, decide_eq_true h.1⟩
      have hf := h.2 e (by simpa using he)
      unfold EvFine at hf
      unfold impl_FreshConns.rng
      exact decide_eq_true (by omega)
    simp only [decide_eq_true h, if_true, if_pos h, ha]
    exact ev rfl
  · simp only [decide_eq_false h, if_neg h, Bool.false_eq_true, if_false]
    exact ev rfl

theorem szEventS_small (l : List S35) (hl : l.length ≤ maxLen) : ∃ t, laws_szEventS.f l 1048576 = some t ∧ (¬ t < 0 → l.length ≤ 1048576) := by
  unfold laws_szEventS.f maxLen at *
  split
  · exact ⟨_, rfl, fun h => absurd (by decide) h⟩
  · next h => refine ⟨_, rfl, fun _ => ?_⟩; unfold wrap64 at h; omega

/-- The shell of a law over a log: both sides answer alike. -/
theorem mapEv_len {l : List S35} (h : l.length ≤ 1048576) : (l.map cvEvent).length ≤ 1048576 := by rw [List.length_map]; exact h

theorem pure_holds : PureOf := by
  intro l hl
  refine Ev.rounds (g := fun k => laws_FnExactFreshConns.f k l) ?_
  unfold laws_FnExactFreshConns.f
  obtain ⟨t, ht, hs⟩ := szEventS_small l hl.1
  simp only [ht, Option.bind_some]
  refine ite (fun h => ev rfl) (fun h => ?_)
  have hb := hs h
  have hb2 := mapEv_len hb
  have h1 := spec_FreshConns_ev _ hb2
  have h2 := impl_FreshConns_ev _ hb2
  have he := eqEventS_ev _ (show (l.map cvEvent).length ≤ 9223372036854775807 by omega)
  repeat' (first | exact ev rfl | (refine ite (fun h => absurd h (by omega)) (fun _ => ?_)) | (refine ite (fun _ => ?_) (fun h => absurd rfl h)) | refine bnd (toEventS_ev l hb) ?_ | refine bnd (h1) ?_ | refine bnd (h2) ?_ | refine bnd (he) ?_ | simp only [laws_FnExactFreshConns.f, if_true, bne_self_eq_false, Bool.false_eq_true, if_false, Option.bind_some, Bool.not_true, Bool.not_false] | (refine sh 1 ?_; simp only [laws_FnExactFreshConns.f, if_true, bne_self_eq_false, Bool.false_eq_true, if_false, Option.bind_some, Bool.not_true, Bool.not_false]))

end Go.Proofs.Ytciehpgbhfngiaa.PFnExactFreshConns
