/- The pure statement of FnExactMostLive: the program's MostLive answers what the reference's answers, for every input. -/
import Derived.Test.YtladnbmemohekaaPFnExactMostLivex0
import Derived.Test.YtladnbmemohekaaPFnExactMostLivex1
import Derived.Test.YtladnbmemohekaaPFnExactMostLivex2
import Derived.Test.YtladnbmemohekaaPFnExactMostLivex3
import Derived.Test.YtladnbmemohekaaPFnExactMostLivex4
import Derived.Test.YtladnbmemohekaaPFnExactMostLivex5
import Derived.Test.YtladnbmemohekaaAid
import Derived.Test.YtladnbmemohekaaGFnExactMostLive
namespace Go.Proofs.Ytladnbmemohekaa.PFnExactMostLive
open Go.RowKit Go.Proofs.YtladnbmemohekaaW.PrintWords Go.Proofs.YtladnbmemohekaaW.PrintLast Go.Proofs.Ytladnbmemohekaa.Opn Go.Proofs.Ytladnbmemohekaa.Aid
set_option linter.unusedVariables false
set_option linter.unusedSimpArgs false

def PureOf : Prop := ∀ (l0 : List (S52)), (l0.length ≤ maxLen ∧ ∀ y2 ∈ l0, G52 y2) → ∃ k, laws_FnExactMostLive.f k l0 = some true
theorem l01In_eq (a b c : Int) : spec_l01In.f a b c = some (decide (b ≤ a ∧ a ≤ c)) := by
  unfold spec_l01In.f; split <;> simp [*]
theorem in_eq (a b c : Int) : impl_in.f a b c = some (decide (b ≤ a ∧ a ≤ c)) := by
  unfold impl_in.f; split
  · simp_all
  · next h => simp; omega

theorem spec_TickOk_eq (a : Int) : spec_TickOk.f a = some (decide (0 ≤ a ∧ a ≤ 1000000000)) := by
  unfold spec_TickOk.f; rw [l01In_eq]; rfl

theorem l01Has_loop (l : List Int) (x : Int) (hl : l.length ≤ 9223372036854775807) : ∀ n, n ≤ l.length → Ev (fun k => spec_l01Has.l0 k l x (n : Int)) (decide (x ∈ l.drop n)) := by
  refine down ?_ ?_
  · refine sh 1 ?_
    simp only [spec_l01Has.l0, Int.lt_irrefl, if_false]
    exact ev (by simp)
  · intro n hn ih
    refine sh 1 ?_
    simp only [spec_l01Has.l0, lt_cast hn, Int.natCast_nonneg, if_true, wsucc hn hl, rd_get hn]
    rw [drop_cons hn]
    refine ite (fun h => ev ?_) (fun h => eqv ih ?_)
    · exact dT (by rw [← h]; exact List.mem_cons_self)
    · exact decide_eq_decide.mpr ⟨fun hm => List.mem_cons_of_mem _ hm, fun hm => (List.mem_cons.mp hm).resolve_left (fun e => h e.symm)⟩
theorem l01Has_ev (l : List Int) (x : Int) (hl : l.length ≤ 9223372036854775807) : Ev (fun k => spec_l01Has.f k l x) (decide (x ∈ l)) := by
  unfold spec_l01Has.f
  exact eqv (l01Has_loop l x hl 0 (Nat.zero_le _)) (by simp)

theorem index_loop (l : List Int) (x : Int) (hl : l.length ≤ 9223372036854775807) : ∀ n, n ≤ l.length → Ev (fun k => slices_Index_int_int.l0 k l x (l.length : Int) (n : Int)) (if x ∈ l.drop n then ((n + (l.drop n).idxOf x : Nat) : Int) else -1) := by
  refine down ?_ ?_
  · refine sh 1 ?_
    simp only [slices_Index_int_int.l0, Int.lt_irrefl, if_false]
    exact ev (by simp)
  · intro n hn ih
    refine sh 1 ?_
    simp only [slices_Index_int_int.l0, lt_cast hn, Int.natCast_nonneg, if_true, wsucc hn hl, rd_get hn]
    rw [drop_cons hn]
    refine ite (fun h => ev ?_) (fun h => eqv ih ?_)
    · rw [← h, if_pos List.mem_cons_self, List.idxOf_cons_self]; simp
    · have h2 : ¬ l[n] = x := fun e => h e.symm
      by_cases hm : x ∈ l.drop (n + 1)
      · rw [if_pos hm, if_pos (List.mem_cons_of_mem _ hm), List.idxOf_cons, show (l[n] == x) = false from beq_eq_false_iff_ne.mpr h2, cond_false]; omega
      · rw [if_neg hm, if_neg (fun hc => hm ((List.mem_cons.mp hc).resolve_left h))]
theorem index_ev (l : List Int) (x : Int) (hl : l.length ≤ 9223372036854775807) : Ev (fun k => slices_Index_int_int.f k l x) (if x ∈ l then (l.idxOf x : Int) else -1) := by
  unfold slices_Index_int_int.f
  exact eqv (index_loop l x hl 0 (Nat.zero_le _)) (by simp)
theorem contains_ev (l : List Int) (x : Int) (hl : l.length ≤ 9223372036854775807) : Ev (fun k => slices_Contains_int_int.f k l x) (decide (x ∈ l)) := by
  unfold slices_Contains_int_int.f
  refine bnd (index_ev l x hl) (ev ?_)
  by_cases h : x ∈ l
  · simp only [h, if_true, decide_true]; exact decide_eq_true (by omega)
  · simp only [h, if_false, decide_false]; rfl

theorem rdB_Event {l : List S50} {n : Nat} (h : n < l.length) : rd_T50 l (n : Int) = l[n] := by unfold rd_T50; rw [Int.toNat_natCast]; exact getD_get _ h
theorem eqEvent_self (x : S50) : laws_eqEvent.f x.f0 x.f1 x.f2 x.f0 x.f1 x.f2 = some true := by unfold laws_eqEvent.f; simp
theorem eqEventS_loop (l : List S50) (hl : l.length ≤ 9223372036854775807) : ∀ n, n ≤ l.length → Ev (fun k => laws_eqEventS.l0 k l l (n : Int)) true := by
  refine down ?_ ?_
  · refine sh 1 ?_
    simp only [laws_eqEventS.l0, Int.lt_irrefl, if_false]
    exact ev rfl
  · intro n hn ih
    refine sh 1 ?_
    simp only [laws_eqEventS.l0, lt_cast hn, Int.natCast_nonneg, if_true, wsucc hn hl, eqEvent_self, Option.bind_some]
    exact ih
theorem eqEventS_ev (l : List S50) (hl : l.length ≤ 9223372036854775807) : Ev (fun k => laws_eqEventS.f k l l) true := by
  unfold laws_eqEventS.f
  simp only [if_true]
  exact eqEventS_loop l hl 0 (Nat.zero_le _)

def cvEvent (x : S52) : S50 := ⟨x.f0, x.f1, x.f2⟩
theorem rdA_Event {l : List S52} {n : Nat} (h : n < l.length) : rd_T52 l (n : Int) = l[n] := by unfold rd_T52; rw [Int.toNat_natCast]; exact getD_get _ h
theorem toEventS_loop (l : List S52) (hl : l.length ≤ 9223372036854775807) : ∀ n, n ≤ l.length → ∀ acc : List S50, acc.length = l.length →
    Ev (fun k => laws_toEventS.l0 k l acc (n : Int)) (acc.take n ++ (l.drop n).map cvEvent) := by
  refine down ?_ ?_
  · intro acc ha
    refine sh 1 ?_
    simp only [laws_toEventS.l0, Int.lt_irrefl, if_false]
    exact ev (by simp [← ha])
  · intro n hn ih acc ha
    refine sh 1 ?_
    simp only [laws_toEventS.l0, laws_toEvent.f, lt_cast hn, ha, Int.natCast_nonneg, if_true, wsucc hn hl, Int.toNat_natCast, rdA_Event hn, Option.bind_some]
    refine eqv (ih (acc.set n (cvEvent l[n])) (by simp [ha])) ?_
    rw [take_set (by omega), drop_cons hn, List.map_cons, List.append_assoc]; rfl
theorem toEventS_ev (l : List S52) (hl : l.length ≤ 1048576) : Ev (fun k => laws_toEventS.f k l) (l.map cvEvent) := by
  unfold laws_toEventS.f
  simp only [Int.natCast_nonneg, if_true, Int.toNat_natCast]
  refine ite (fun _ => ?_) (fun h => absurd (show l.length ≤ 1099511627776 by omega) (by omega))
  exact eqv (toEventS_loop l (by omega) 0 (Nat.zero_le _) (List.replicate l.length z50) (by simp)) (by simp)

theorem hasT_ev (a : Int) : Ev (fun k => spec_l01Has.f k ([3, 4, 7, 8, 9, 10] : List Int) a) (decide (a = 3 ∨ a = 4 ∨ a = 7 ∨ a = 8 ∨ a = 9 ∨ a = 10)) :=
  eqv (l01Has_ev _ a (by simp)) (by simp)
theorem hasTicket_ev (a : Int) : Ev (fun k => impl_hasTicket.f k a) (decide (a = 3 ∨ a = 4 ∨ a = 7 ∨ a = 8 ∨ a = 9 ∨ a = 10)) := by
  unfold impl_hasTicket.f
  exact bnd (contains_ev _ a (by simp)) (ev (by simp))
theorem hasConn_eq (a : Int) : impl_hasConn.f a = some (decide ((0 ≤ a ∧ a ≤ 6) ∨ a = 10)) := by
  unfold impl_hasConn.f
  simp only [in_eq, Option.bind_some, decide_eq_true_eq, Bool.not_eq_true', Bool.not_eq_true, decide_eq_false_iff_not, beq_iff_eq, bne_iff_ne, ne_eq, Bool.false_eq_true, Bool.true_eq_false, eq_self_iff_true, if_true, if_false, reduceIte, not_true_eq_false, not_false_eq_true]
  split
  · congr 1; exact (decide_eq_true (by omega)).symm
  · congr 1; rw [Bool.eq_iff_iff]; simp; omega
def EvFine (a b c : Int) : Prop := (0 ≤ a ∧ a ≤ 11) ∧ (0 ≤ b ∧ b ≤ 1000000000) ∧ (0 ≤ c ∧ c ≤ 1000000000) ∧ ((a ≤ 6 ∨ a = 10) → 1 ≤ c) ∧
  ((a = 3 ∨ a = 4 ∨ a = 7 ∨ a = 8 ∨ a = 9 ∨ a = 10) → 1 ≤ b) ∧ (¬ (a = 3 ∨ a = 4 ∨ a = 7 ∨ a = 8 ∨ a = 9 ∨ a = 10) → a ≠ 5 → b = 0) ∧ ((7 ≤ a ∧ a ≤ 9) → c = 0) ∧ (a = 11 → c ≤ 3)
def LogFrom (l : List S50) (n : Nat) : Prop := ∀ e ∈ l.drop n, EvFine e.f0 e.f1 e.f2
theorem logFrom_step {l : List S50} {n : Nat} (hn : n < l.length) : LogFrom l n ↔ EvFine l[n].f0 l[n].f1 l[n].f2 ∧ LogFrom l (n + 1) := by
  unfold LogFrom; rw [drop_cons hn, List.forall_mem_cons]
open Classical in
theorem spec_LogOk_loop (l : List S50) (hl : l.length ≤ 1048576) : ∀ n, n ≤ l.length → Ev (fun k => spec_LogOk.l0 k l (n : Int)) (decide (LogFrom l n)) := by
  refine down ?_ ?_
  · refine sh 1 ?_
    simp only [spec_LogOk.l0, Int.lt_irrefl, if_false]
    exact ev (dT (by unfold LogFrom; simp))
  · intro n hn ih
    refine sh 1 ?_
    have hs := logFrom_step hn
    have hw : wrap64 ((n : Int) + 1) = ((n + 1 : Nat) : Int) := wsucc hn (by omega)
    simp only [spec_LogOk.l0, lt_cast hn, Int.natCast_nonneg, rdB_Event hn, l01In_eq, spec_TickOk_eq, Option.bind_some, decide_eq_true_eq, Bool.not_eq_true', Bool.not_eq_true, decide_eq_false_iff_not, beq_iff_eq, bne_iff_ne, ne_eq, Bool.false_eq_true, Bool.true_eq_false, eq_self_iff_true, if_true, if_false, reduceIte, not_true_eq_false, not_false_eq_true]
    generalize l[n].f0 = a at hs ⊢
    generalize l[n].f1 = b at hs ⊢
    generalize l[n].f2 = c at hs ⊢
    repeat' (first | refine ite (fun _ => ?_) (fun _ => ?_) | refine ev ?_ | (refine bnd (hasT_ev _) ?_; (try simp only [Option.bind_some, decide_eq_true_eq, Bool.not_eq_true', Bool.not_eq_true, decide_eq_false_iff_not, beq_iff_eq, bne_iff_ne, ne_eq, Bool.false_eq_true, Bool.true_eq_false, eq_self_iff_true, if_true, if_false, reduceIte, not_true_eq_false, not_false_eq_true])) | refine eqv ih ?_ | (refine sh 1 ?_; simp only [spec_LogOk.j1, spec_LogOk.j2, spec_LogOk.j3, spec_LogOk.j4, l01In_eq, hw, Option.bind_some, decide_eq_true_eq, Bool.not_eq_true', Bool.not_eq_true, decide_eq_false_iff_not, beq_iff_eq, bne_iff_ne, ne_eq, Bool.false_eq_true, Bool.true_eq_false, eq_self_iff_true, if_true, if_false, reduceIte, not_true_eq_false, not_false_eq_true]))
    all_goals first
      | (refine dF ?_; rw [hs]; rintro ⟨h, _⟩; unfold EvFine at h; omega)
      | (refine decide_eq_decide.mpr ?_; rw [hs]; exact ⟨fun h => ⟨by unfold EvFine; omega, h⟩, fun h => h.2⟩)
open Classical in
theorem spec_LogOk_ev (l : List S50) (hl : l.length ≤ 1048576) : Ev (fun k => spec_LogOk.f k l) (decide (l.length ≤ 2000 ∧ LogFrom l 0)) := by
  unfold spec_LogOk.f
  refine ite (fun h => ev (dF (by omega))) (fun h => eqv (spec_LogOk_loop l hl 0 (Nat.zero_le _)) (decide_eq_decide.mpr ⟨fun h => ⟨by omega, h⟩, fun h => h.2⟩))
open Classical in
theorem impl_LogOk_loop (l : List S50) (hl : l.length ≤ 1048576) : ∀ n, n ≤ l.length → Ev (fun k => impl_LogOk.l0 k l (l.length : Int) (n : Int)) (decide (LogFrom l n)) := by
  refine down ?_ ?_
  · refine sh 1 ?_
    simp only [impl_LogOk.l0, Int.lt_irrefl, if_false]
    exact ev (dT (by unfold LogFrom; simp))
  · intro n hn ih
    refine sh 1 ?_
    have hs := logFrom_step hn
    have hw : wrap64 ((n : Int) + 1) = ((n + 1 : Nat) : Int) := wsucc hn (by omega)
    simp only [impl_LogOk.l0, lt_cast hn, Int.natCast_nonneg, rdB_Event hn, Option.bind_some, decide_eq_true_eq, Bool.not_eq_true', Bool.not_eq_true, decide_eq_false_iff_not, beq_iff_eq, bne_iff_ne, ne_eq, Bool.false_eq_true, Bool.true_eq_false, eq_self_iff_true, if_true, if_false, reduceIte, not_true_eq_false, not_false_eq_true]
    generalize l[n].f0 = a at hs ⊢
    generalize l[n].f1 = b at hs ⊢
    generalize l[n].f2 = c at hs ⊢
    repeat' (first | refine ite (fun _ => ?_) (fun _ => ?_) | refine ev ?_ | (refine bnd (hasTicket_ev _) ?_; (try simp only [Option.bind_some, decide_eq_true_eq, Bool.not_eq_true', Bool.not_eq_true, decide_eq_false_iff_not, beq_iff_eq, bne_iff_ne, ne_eq, Bool.false_eq_true, Bool.true_eq_false, eq_self_iff_true, if_true, if_false, reduceIte, not_true_eq_false, not_false_eq_true])) | refine eqv ih ?_ | (refine sh 1 ?_; simp only [impl_LogOk.j1, impl_LogOk.j2, impl_LogOk.j3, impl_LogOk.j4, in_eq, hasConn_eq, hw, Option.bind_some, decide_eq_true_eq, Bool.not_eq_true', Bool.not_eq_true, decide_eq_false_iff_not, beq_iff_eq, bne_iff_ne, ne_eq, Bool.false_eq_true, Bool.true_eq_false, eq_self_iff_true, if_true, if_false, reduceIte, not_true_eq_false, not_false_eq_true]))
    all_goals first
      | (refine dF ?_; rw [hs]; rintro ⟨h, _⟩; unfold EvFine at h; omega)
      | (refine decide_eq_decide.mpr ?_; rw [hs]; exact ⟨fun h => ⟨by unfold EvFine; omega, h⟩, fun h => h.2⟩)
open Classical in
theorem impl_LogOk_ev (l : List S50) (hl : l.length ≤ 1048576) : Ev (fun k => impl_LogOk.f k l) (decide (l.length ≤ 2000 ∧ LogFrom l 0)) := by
  unfold impl_LogOk.f
  refine ite (fun h => ev (dF (by omega))) (fun h => eqv (impl_LogOk_loop l hl 0 (Nat.zero_le _)) (decide_eq_decide.mpr ⟨fun h => ⟨by omega, h⟩, fun h => h.2⟩))

def Live : Int → List S50 → List Int
  | _, [] => []
  | x, e :: l => (if e.f0 = 0 then x + 1 else if e.f0 = 2 ∨ e.f0 = 5 then x - 1 else x) :: Live (if e.f0 = 0 then x + 1 else if e.f0 = 2 ∨ e.f0 = 5 then x - 1 else x) l
theorem Live_length : ∀ (l : List S50) (x : Int), (Live x l).length = l.length
  | [], _ => rfl
  | e :: l, x => by simp [Live, Live_length l]
theorem spec_Live_loop (l : List S50) (hl : l.length ≤ 1048576) : ∀ n, n ≤ l.length → ∀ (acc : List Int) (x : Int), acc.length ≤ n → -(n : Int) ≤ x → x ≤ n → Ev (fun k => spec_LiveAfter.l0 k l acc x (n : Int)) (acc ++ Live x (l.drop n)) := by
  refine down ?_ ?_
  · intro acc x ha _ _
    refine sh 1 ?_
    simp only [spec_LiveAfter.l0, Int.lt_irrefl, if_false]
    exact ev (by simp [Live])
  · intro n hn ih acc x ha h0 h1
    refine sh 1 ?_
    have hw : wrap64 ((n : Int) + 1) = ((n + 1 : Nat) : Int) := wsucc hn (by omega)
    have hp : wrap64 (x + 1) = x + 1 := wid (by omega) (by omega)
    have hm : wrap64 (x - 1) = x - 1 := wid (by omega) (by omega)
    simp only [spec_LiveAfter.l0, lt_cast hn, Int.natCast_nonneg, rdB_Event hn, hw, hp, hm, if_true, if_pos (show acc.length < 17592186044416 by omega)]
    clear hw hp hm
    rw [drop_cons hn, Live]
    generalize l[n].f0 = a
    have happ : ∀ v, (acc ++ [v]).length ≤ n + 1 := by intro v; simp; omega
    refine ite (fun h => ?_) (fun h => ite (fun h2 => ?_) (fun h2 => ite (fun h3 => ?_) (fun h3 => ?_)))
    · rw [if_pos h]; exact eqv (ih (acc ++ [x + 1]) (x + 1) (happ _) (by omega) (by omega)) (by simp)
    · rw [if_neg h, if_pos (Or.inl h2)]; exact eqv (ih (acc ++ [x - 1]) (x - 1) (happ _) (by omega) (by omega)) (by simp)
    · rw [if_neg h, if_pos (Or.inr h3)]; exact eqv (ih (acc ++ [x - 1]) (x - 1) (happ _) (by omega) (by omega)) (by simp)
    · rw [if_neg h, if_neg (by omega)]; exact eqv (ih (acc ++ [x]) x (happ _) (by omega) (by omega)) (by simp)
theorem impl_Live_loop (l : List S50) (hl : l.length ≤ 1048576) : ∀ n, n ≤ l.length → ∀ (acc : List Int) (x : Int), acc.length ≤ n → -(n : Int) ≤ x → x ≤ n → Ev (fun k => impl_LiveAfter.l0 k x acc l (l.length : Int) (n : Int)) (acc ++ Live x (l.drop n)) := by
  refine down ?_ ?_
  · intro acc x ha _ _
    refine sh 1 ?_
    simp only [impl_LiveAfter.l0, Int.lt_irrefl, if_false]
    exact ev (by simp [Live])
  · intro n hn ih acc x ha h0 h1
    refine sh 1 ?_
    have hw : wrap64 ((n : Int) + 1) = ((n + 1 : Nat) : Int) := wsucc hn (by omega)
    have hp : wrap64 (x + 1) = x + 1 := wid (by omega) (by omega)
    have hm : wrap64 (x - 1) = x - 1 := wid (by omega) (by omega)
    simp only [impl_LiveAfter.l0, lt_cast hn, Int.natCast_nonneg, rdB_Event hn, hw, hp, hm, if_true, if_pos (show acc.length < 17592186044416 by omega)]
    clear hw hp hm
    rw [drop_cons hn, Live]
    generalize l[n].f0 = a
    have happ : ∀ v, (acc ++ [v]).length ≤ n + 1 := by intro v; simp; omega
    refine ite (fun h => ?_) (fun h => ite (fun h2 => ?_) (fun h2 => ite (fun h3 => ?_) (fun h3 => ?_)))
    · rw [if_pos h]; exact eqv (ih (acc ++ [x + 1]) (x + 1) (happ _) (by omega) (by omega)) (by simp)
    · rw [if_neg h, if_pos (Or.inl h2)]; exact eqv (ih (acc ++ [x - 1]) (x - 1) (happ _) (by omega) (by omega)) (by simp)
    · rw [if_neg h, if_pos (Or.inr h3)]; exact eqv (ih (acc ++ [x - 1]) (x - 1) (happ _) (by omega) (by omega)) (by simp)
    · rw [if_neg h, if_neg (by omega)]; exact eqv (ih (acc ++ [x]) x (happ _) (by omega) (by omega)) (by simp)
open Classical in
noncomputable def LiveO (l : List S50) : List Int := if l.length ≤ 2000 ∧ LogFrom l 0 then Live 0 l else []
theorem LiveO_length (l : List S50) : (LiveO l).length ≤ l.length := by
  unfold LiveO; split
  · rw [Live_length]; omega
  · simp
theorem spec_LiveAfter_ev (l : List S50) (hl : l.length ≤ 1048576) : Ev (fun k => spec_LiveAfter.f k l) (LiveO l) := by
  classical
  unfold spec_LiveAfter.f LiveO
  refine bnd (spec_LogOk_ev l hl) ?_
  simp only [decide_eq_true_eq]
  refine ite (fun h => ?_) (fun h => ev (by rw [if_neg h]))
  rw [if_pos h]
  exact spec_Live_loop l hl 0 (Nat.zero_le _) [] 0 (by simp) (by simp) (by simp)
theorem impl_LiveAfter_ev (l : List S50) (hl : l.length ≤ 1048576) : Ev (fun k => impl_LiveAfter.f k l) (LiveO l) := by
  classical
  unfold impl_LiveAfter.f LiveO
  refine bnd (impl_LogOk_ev l hl) ?_
  simp only [decide_eq_true_eq]
  refine ite (fun h => ?_) (fun h => ev (by rw [if_neg h]))
  rw [if_pos h]
  exact impl_Live_loop l hl 0 (Nat.zero_le _) [] 0 (by simp) (by simp) (by simp)

def mostOf : List Int → Int
  | [] => 0
  | a :: l => l.foldl mx a
theorem spec_Most_loop (r : List Int) (hl : r.length ≤ 1048576) : ∀ n, n ≤ r.length → ∀ x : Int, 0 < n → Ev (fun k => spec_MostLive.l0 k r x (n : Int)) ((r.drop n).foldl mx x) := by
  refine down ?_ ?_
  · intro x _
    refine sh 1 ?_
    simp only [spec_MostLive.l0, Int.lt_irrefl, if_false]
    exact ev (by simp)
  · intro n hn ih x h0
    refine sh 1 ?_
    have hz : ((n : Int) = 0) = False := by simp; omega
    simp only [spec_MostLive.l0, lt_cast hn, Int.natCast_nonneg, if_true, wsucc hn (show r.length ≤ 9223372036854775807 by omega), rd_get hn, hz, if_false]
    rw [drop_cons hn, List.foldl_cons]
    refine ite (fun h => ?_) (fun h => ?_)
    · exact eqv (ih _ (by omega)) (by rw [mx, if_pos (by omega)])
    · exact eqv (ih _ (by omega)) (by rw [mx, if_neg (by omega)])
theorem impl_Most_loop (r : List Int) (hl : r.length ≤ 1048576) : ∀ n, n ≤ r.length → ∀ x : Int, Ev (fun k => slices_Max_int_int.l0 k r x (n : Int)) ((r.drop n).foldl mx x) := by
  refine down ?_ ?_
  · intro x
    refine sh 1 ?_
    simp only [slices_Max_int_int.l0, Int.lt_irrefl, if_false]
    exact ev (by simp)
  · intro n hn ih x
    refine sh 1 ?_
    simp only [slices_Max_int_int.l0, lt_cast hn, Int.natCast_nonneg, if_true, wsucc hn (show r.length ≤ 9223372036854775807 by omega), rd_get hn]
    rw [drop_cons hn, List.foldl_cons]
    exact ih _
theorem spec_Most_all (r : List Int) (hl : r.length ≤ 1048576) : Ev (fun k => spec_MostLive.l0 k r 0 0) (mostOf r) := by
  cases r with
  | nil =>
    refine sh 1 ?_
    simp only [spec_MostLive.l0, List.length_nil, Int.natCast_zero, Int.lt_irrefl, if_false]
    exact ev rfl
  | cons a t =>
    refine sh 1 ?_
    have h := spec_Most_loop (a :: t) hl 1 (by simp) a (by omega)
    have h1 : (0 : Int) < ((a :: t).length : Int) := by rw [List.length_cons]; omega
    have h2 : rd (a :: t) 0 = a := by simp [rd]
    have h3 : wrap64 (0 + 1) = ((1 : Nat) : Int) := (wid (by omega) (by omega)).trans rfl
    simp only [spec_MostLive.l0, h1, if_true, Int.le_refl, h2, h3]
    exact h
open Classical in
noncomputable def MostV (l : List S50) : Int := if l.length ≤ 2000 ∧ LogFrom l 0 then mostOf (Live 0 l) else -1
theorem spec_MostLive_ev (l : List S50) (hl : l.length ≤ 1048576) : Ev (fun k => spec_MostLive.f k l) (MostV l) := by
  classical
  unfold spec_MostLive.f MostV
  refine bnd (spec_LogOk_ev l hl) ?_
  simp only [decide_eq_true_eq]
  refine ite (fun h => ?_) (fun h => ev (by rw [if_neg h]))
  rw [if_pos h]
  have h1 := spec_LiveAfter_ev l hl
  rw [LiveO, if_pos h] at h1
  refine bnd h1 ?_
  exact spec_Most_all _ (by rw [Live_length]; omega)
theorem impl_MostLive_ev (l : List S50) (hl : l.length ≤ 1048576) : Ev (fun k => impl_MostLive.f k l) (MostV l) := by
  classical
  unfold impl_MostLive.f MostV
  refine bnd (impl_LogOk_ev l hl) ?_
  simp only [decide_eq_true_eq]
  refine ite (fun h => ?_) (fun h => ev (by rw [if_neg h]))
  rw [if_pos h]
  have h1 := impl_LiveAfter_ev l hl
  rw [LiveO, if_pos h] at h1
  refine ite (fun h0 => ?_) (fun h0 => ?_)
  · have : l = [] := by cases l with | nil => rfl | cons a t => simp at h0; omega
    subst this
    exact ev (by simp [Live, mostOf])
  · refine bnd h1 ?_
    cases l with
    | nil => simp at h0
    | cons e t =>
      simp only [Live]
      generalize (if e.f0 = 0 then (0 : Int) + 1 else if e.f0 = 2 ∨ e.f0 = 5 then 0 - 1 else 0) = a
      have hlen : (a :: Live a t).length ≤ 1048576 := by simp [Live_length]; simp at hl; omega
      have hm := impl_Most_loop (a :: Live a t) hlen 1 (by simp) a
      have h2 : rd (a :: Live a t) 0 = a := by simp [rd]
      have h3 : ¬ (((a :: Live a t).length : Int) < 1) := by rw [List.length_cons]; omega
      have h4 : (0 : Int) < ((a :: Live a t).length : Int) := by rw [List.length_cons]; omega
      refine bnd (b := mostOf (a :: Live a t)) ?_ ?_
      · unfold slices_Max_int_int.f
        simp only [if_neg h3, if_pos h4, h2]
        exact hm
      · exact ev rfl

theorem szEventS_small (l : List S52) (hl : l.length ≤ maxLen) : ∃ t, laws_szEventS.f l 1048576 = some t ∧ (¬ t < 0 → l.length ≤ 1048576) := by
  unfold laws_szEventS.f maxLen at *
  split
  · exact ⟨_, rfl, fun h => absurd (by decide) h⟩
  · next h => refine ⟨_, rfl, fun _ => ?_⟩; unfold wrap64 at h; omega

/-- The shell of a law over a log: both sides answer alike. -/
theorem mapEv_len {l : List S52} (h : l.length ≤ 1048576) : (l.map cvEvent).length ≤ 1048576 := by rw [List.length_map]; exact h

theorem pure_holds : PureOf := by
  intro l hl
  refine Ev.rounds (g := fun k => laws_FnExactMostLive.f k l) ?_
  unfold laws_FnExactMostLive.f
  obtain ⟨t, ht, hs⟩ := szEventS_small l hl.1
  simp only [ht, Option.bind_some]
  refine ite (fun h => ev rfl) (fun h => ?_)
  have hb := hs h
  have hb2 := mapEv_len hb
  have h1 := spec_MostLive_ev _ hb2
  have h2 := impl_MostLive_ev _ hb2
  have he := eqEventS_ev _ (show (l.map cvEvent).length ≤ 9223372036854775807 by omega)
  repeat' (first | exact ev rfl | (refine ite (fun h => absurd h (by omega)) (fun _ => ?_)) | (refine ite (fun _ => ?_) (fun h => absurd rfl h)) | refine bnd (toEventS_ev l hb) ?_ | refine bnd (h1) ?_ | refine bnd (h2) ?_ | refine bnd (he) ?_ | simp only [laws_FnExactMostLive.f, if_true, bne_self_eq_false, Bool.false_eq_true, if_false, Option.bind_some, Bool.not_true, Bool.not_false] | (refine sh 1 ?_; simp only [laws_FnExactMostLive.f, if_true, bne_self_eq_false, Bool.false_eq_true, if_false, Option.bind_some, Bool.not_true, Bool.not_false]))

end Go.Proofs.Ytladnbmemohekaa.PFnExactMostLive
