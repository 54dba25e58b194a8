/- The pure statement of FnExactMoveBack: the program's MoveBack answers what the reference's answers, for every input, in new memory. -/
import Derived.Test.YtnkpjpfmjkiidaaPFnExactMoveBackx0
import Derived.Test.YtnkpjpfmjkiidaaPFnExactMoveBackx1
import Derived.Test.YtnkpjpfmjkiidaaPFnExactMoveBackx2
import Derived.Test.YtnkpjpfmjkiidaaPFnExactMoveBackx3
import Derived.Test.YtnkpjpfmjkiidaaPFnExactMoveBackx4
import Derived.Test.YtnkpjpfmjkiidaaPFnExactMoveBackx5
import Derived.Test.YtnkpjpfmjkiidaaPFnExactMoveBackx6
import Derived.Test.YtnkpjpfmjkiidaaPFnExactMoveBackx7
import Derived.Test.YtnkpjpfmjkiidaaPFnExactMoveBackx8
import Derived.Test.YtnkpjpfmjkiidaaPFnExactMoveBackx9
import Derived.Test.YtnkpjpfmjkiidaaPFnExactMoveBackx10
import Derived.Test.YtnkpjpfmjkiidaaPFnExactMoveBackx11
import Derived.Test.YtnkpjpfmjkiidaaPFnExactMoveBackx12
import Derived.Test.YtnkpjpfmjkiidaaZFnExactMoveBack
import Derived.Test.YtnkpjpfmjkiidaaGFnExactMoveBack
namespace Go.Proofs.Ytnkpjpfmjkiidaa.PFnExactMoveBack
open Go.RowKit Go.Proofs.YtnkpjpfmjkiidaaW.PrintWords Go.Proofs.YtnkpjpfmjkiidaaW.PrintLast Go.Proofs.Ytnkpjpfmjkiidaa.Opn Go.Proofs.Ytnkpjpfmjkiidaa.Aid
set_option linter.unusedVariables false
set_option linter.unusedSimpArgs false

def PureOf : Prop := ∀ (l0_0 : List (S100)) (a0_1 : Int) (a0_2 : Int) (a0_3 : Int) (a0_4 : Int) (a1 : Int), (l0_0.length ≤ maxLen ∧ ∀ y4 ∈ l0_0, G100 y4) → I64 a0_1 → I64 a0_2 → I64 a0_3 → I64 a0_4 → I64 a1 → ∃ k, laws_FnExactMoveBack.f k l0_0 a0_1 a0_2 a0_3 a0_4 a1 = some true
theorem rdB_Slot {l : List S97} {n : Nat} (h : n < l.length) : rd_T97 l (n : Int) = l[n] := by unfold rd_T97; rw [Int.toNat_natCast]; exact getD_get _ h
theorem eqSlot_self (x : S97) : laws_eqSlot.f x.f0 x.f1 x.f2 x.f3 x.f0 x.f1 x.f2 x.f3 = some true := by unfold laws_eqSlot.f; simp
theorem eqSlotS_loop (l : List S97) (hl : l.length ≤ 9223372036854775807) : ∀ n, n ≤ l.length → Ev (fun k => laws_eqSlotS.l0 k l l (n : Int)) true := by
  refine down ?_ ?_
  · refine sh 1 ?_
    simp only [laws_eqSlotS.l0, Int.lt_irrefl, if_false]
    exact ev rfl
  · intro n hn ih
    refine sh 1 ?_
    simp only [laws_eqSlotS.l0, lt_cast hn, Int.natCast_nonneg, if_true, wsucc hn hl, eqSlot_self, Option.bind_some]
    exact ih
theorem eqSlotS_ev (l : List S97) (hl : l.length ≤ 9223372036854775807) : Ev (fun k => laws_eqSlotS.f k l l) true := by
  unfold laws_eqSlotS.f
  simp only [if_true]
  exact eqSlotS_loop l hl 0 (Nat.zero_le _)

theorem l01In_eq (a b c : Int) : spec_l01In.f a b c = some (decide (b ≤ a ∧ a ≤ c)) := by
  unfold spec_l01In.f; split <;> simp [*]
theorem in_eq (a b c : Int) : impl_in.f a b c = some (decide (b ≤ a ∧ a ≤ c)) := by
  unfold impl_in.f; split
  · simp_all
  · next h => simp; omega

theorem l01Has_loop (l : List Int) (x : Int) (hl : l.length ≤ 9223372036854775807) : ∀ n, n ≤ l.length → Ev (fun k => spec_l01Has.l0 k l x (n : Int)) (decide (x ∈ l.drop n)) := by
  refine down ?_ ?_
  · refine sh 1 ?_
    simp only [spec_l01Has.l0, Int.lt_irrefl, if_false]
    exact ev (by simp)
  · intro n hn ih
    refine sh 1 ?_
    simp only [spec_l01Has.l0, lt_cast hn, Int.natCast_nonneg, if_true, wsucc hn hl, rd_get hn]
    rw [drop_cons hn]
    refine ite (fun h => ev ?_) (fun h => eqv ih ?_)
    · exact dT (by rw [← h]; exact List.mem_cons_self)
    · exact decide_eq_decide.mpr ⟨fun hm => List.mem_cons_of_mem _ hm, fun hm => (List.mem_cons.mp hm).resolve_left (fun e => h e.symm)⟩
theorem l01Has_ev (l : List Int) (x : Int) (hl : l.length ≤ 9223372036854775807) : Ev (fun k => spec_l01Has.f k l x) (decide (x ∈ l)) := by
  unfold spec_l01Has.f
  exact eqv (l01Has_loop l x hl 0 (Nat.zero_le _)) (by simp)

theorem index_loop (l : List Int) (x : Int) (hl : l.length ≤ 9223372036854775807) : ∀ n, n ≤ l.length → Ev (fun k => slices_Index_int_int.l0 k l x (l.length : Int) (n : Int)) (if x ∈ l.drop n then ((n + (l.drop n).idxOf x : Nat) : Int) else -1) := by
  refine down ?_ ?_
  · refine sh 1 ?_
    simp only [slices_Index_int_int.l0, Int.lt_irrefl, if_false]
    exact ev (by simp)
  · intro n hn ih
    refine sh 1 ?_
    simp only [slices_Index_int_int.l0, lt_cast hn, Int.natCast_nonneg, if_true, wsucc hn hl, rd_get hn]
    rw [drop_cons hn]
    refine ite (fun h => ev ?_) (fun h => eqv ih ?_)
    · rw [← h, if_pos List.mem_cons_self, List.idxOf_cons_self]; simp
    · have h2 : ¬ l[n] = x := fun e => h e.symm
      by_cases hm : x ∈ l.drop (n + 1)
      · rw [if_pos hm, if_pos (List.mem_cons_of_mem _ hm), List.idxOf_cons, show (l[n] == x) = false from beq_eq_false_iff_ne.mpr h2, cond_false]; omega
      · rw [if_neg hm, if_neg (fun hc => hm ((List.mem_cons.mp hc).resolve_left h))]
theorem index_ev (l : List Int) (x : Int) (hl : l.length ≤ 9223372036854775807) : Ev (fun k => slices_Index_int_int.f k l x) (if x ∈ l then (l.idxOf x : Int) else -1) := by
  unfold slices_Index_int_int.f
  exact eqv (index_loop l x hl 0 (Nat.zero_le _)) (by simp)
theorem contains_ev (l : List Int) (x : Int) (hl : l.length ≤ 9223372036854775807) : Ev (fun k => slices_Contains_int_int.f k l x) (decide (x ∈ l)) := by
  unfold slices_Contains_int_int.f
  refine bnd (index_ev l x hl) (ev ?_)
  by_cases h : x ∈ l
  · simp only [h, if_true, decide_true]; exact decide_eq_true (by omega)
  · simp only [h, if_false, decide_false]; rfl

/-- The places from a on, each leading to the next, down to -1. -/
def Chain (s : List S97) : Int → List Nat → Prop
  | a, [] => a = -1
  | a, n :: l => a = (n : Int) ∧ n < 60 ∧ Chain s (rd_T97 s (n : Int)).f2 l
theorem chain_fn {s : List S97} : ∀ (l m : List Nat) (a : Int), Chain s a l → Chain s a m → l = m
  | [], [], _, _, _ => rfl
  | [], n :: m, a, h1, h2 => by have h3 : a = -1 := h1; have := h2.1; omega
  | n :: l, [], a, h1, h2 => by have h3 : a = -1 := h2; have := h1.1; omega
  | n :: l, k :: m, a, h1, h2 => by
    obtain rfl : n = k := by have := h1.1; have := h2.1; omega
    rw [chain_fn l m _ h1.2.2 h2.2.2]
theorem chain_mid {s : List S97} : ∀ (l1 : List Nat) (x : Nat) (l2 : List Nat) (a : Int), Chain s a (l1 ++ x :: l2) → Chain s (x : Int) (x :: l2)
  | [], x, l2, a, h => ⟨rfl, h.2⟩
  | n :: l1, x, l2, a, h => chain_mid l1 x l2 _ h.2.2
theorem chain_nodup {s : List S97} : ∀ (l : List Nat) (a : Int), Chain s a l → l.Nodup
  | [], _, _ => List.nodup_nil
  | n :: l, a, h => by
    refine List.nodup_cons.2 ⟨fun hm => ?_, chain_nodup l _ h.2.2⟩
    obtain ⟨l1, l2, rfl⟩ := List.append_of_mem hm
    have h1 := chain_mid l1 n l2 _ h.2.2
    have h2 : Chain s (n : Int) (n :: (l1 ++ n :: l2)) := ⟨rfl, h.2⟩
    have h3 := congrArg List.length (chain_fn _ _ _ h1 h2)
    simp at h3
    omega
theorem chain_lt {s : List S97} : ∀ (l : List Nat) (a : Int), Chain s a l → ∀ x ∈ l, x < 60
  | [], _, _, _, hx => by simp at hx
  | n :: l, a, h, x, hx => by
    rcases List.mem_cons.1 hx with rfl | hx
    · exact h.2.1
    · exact chain_lt l _ h.2.2 x hx
theorem chain_end {s : List S97} {l : List Nat} (h : Chain s (-1) l) : l = [] := chain_fn _ _ _ h (show Chain s (-1) [] from rfl)
theorem chain_at {s : List S97} {l : List Nat} {n : Nat} (h : Chain s (n : Int) l) : ∃ m, l = n :: m ∧ n < 60 ∧ Chain s (rd_T97 s (n : Int)).f2 m := by
  cases l with
  | nil => have h3 : (n : Int) = -1 := h; omega
  | cons k m =>
    obtain rfl : n = k := by have := h.1; omega
    exact ⟨m, rfl, h.2⟩
theorem chain_no {s : List S97} {l : List Nat} {a : Int} (h1 : a ≠ -1) (h2 : ¬ (0 ≤ a ∧ a ≤ 59)) : ¬ Chain s a l := by
  cases l with
  | nil => exact h1
  | cons k m => intro h; have := h.1; have := h.2.1; omega
def okU (s : List S97) : Int → List Int → List Nat → Prop
  | _, _, [] => True
  | b, ids, n :: l => (rd_T97 s (n : Int)).f3 = true ∧ (rd_T97 s (n : Int)).f1 = b ∧ (1 ≤ (rd_T97 s (n : Int)).f0 ∧ (rd_T97 s (n : Int)).f0 ≤ 1000000000) ∧ (rd_T97 s (n : Int)).f0 ∉ ids ∧ okU s (n : Int) (ids ++ [(rd_T97 s (n : Int)).f0]) l
def okF (s : List S97) : List Nat → Prop
  | [] => True
  | n :: l => (rd_T97 s (n : Int)).f3 = false ∧ (rd_T97 s (n : Int)).f0 = 0 ∧ (rd_T97 s (n : Int)).f1 = -1 ∧ okF s l
def lastOf : Int → List Nat → Int
  | b, [] => b
  | _, n :: l => lastOf (n : Int) l
def QOk (s : List S97) (first last free count : Int) : Prop :=
  s.length = 60 ∧ ∃ U F, Chain s first U ∧ Chain s free F ∧ okU s (-1) [] U ∧ okF s F ∧ (U.length : Int) = count ∧ U.length + F.length = 60 ∧ last = lastOf (-1) U
theorem isId_eq (a : Int) : impl_isId.f a = some (decide (1 ≤ a ∧ a ≤ 1000000000)) := by unfold impl_isId.f; simp only [in_eq, Option.bind_some]
theorem walk_yes (s : List S97) (hs : s.length = 60) (p q r t : Int) : ∀ (l : List Nat) (a : Int) (acc : List Int), Chain s a l → acc.length + l.length ≤ 60 → Ev (fun k => impl_Queue_walk.l0 k acc a s p q r t) (acc ++ l.map (fun n : Nat => (n : Int)), true) := by
  intro l
  induction l with
  | nil =>
    intro a acc h _
    have h3 : a = -1 := h
    refine sh 1 ?_
    simp only [impl_Queue_walk.l0, h3, if_true]
    exact ev (by simp)
  | cons n l ih =>
    intro a acc h hl
    obtain ⟨rfl, hn, h2⟩ := h
    refine sh 1 ?_
    simp only [List.length_cons] at hl
    simp only [impl_Queue_walk.l0, hs, if_neg (show ¬ (n : Int) = -1 by omega), if_neg (show ¬ (n : Int) < 0 by omega), if_neg (show ¬ (n : Int) ≥ ((60 : Nat) : Int) by omega), if_neg (show ¬ (acc.length : Int) = ((60 : Nat) : Int) by omega), if_pos (show acc.length < 17592186044416 by omega), if_pos (show 0 ≤ (n : Int) by omega), if_pos (show (n : Int) < ((60 : Nat) : Int) by omega)]
    exact eqv (ih _ (acc ++ [(n : Int)]) h2 (by simp; omega)) (by simp)
theorem walk_no (s : List S97) (hs : s.length = 60) (p q r t : Int) : ∀ (d : Nat) (a : Int) (acc : List Int), acc.length + d = 60 → (∀ l, Chain s a l → d < l.length) → Ev (fun k => impl_Queue_walk.l0 k acc a s p q r t) ([], false) := by
  intro d
  induction d with
  | zero =>
    intro a acc ha h
    have h1 : ¬ a = -1 := fun e => by have := h [] e; simp at this
    refine sh 1 ?_
    simp only [impl_Queue_walk.l0, hs, if_neg h1, if_pos (show (acc.length : Int) = ((60 : Nat) : Int) by omega)]
    exact ite (fun _ => ev rfl) (fun _ => ite (fun _ => ev rfl) (fun _ => ev rfl))
  | succ d ih =>
    intro a acc ha h
    have h1 : ¬ a = -1 := fun e => by have := h [] e; simp at this
    refine sh 1 ?_
    simp only [impl_Queue_walk.l0, hs, if_neg h1, if_neg (show ¬ (acc.length : Int) = ((60 : Nat) : Int) by omega), if_pos (show acc.length < 17592186044416 by omega)]
    refine ite (fun _ => ev rfl) (fun h2 => ite (fun _ => ev rfl) (fun h3 => ?_))
    simp only [if_pos (show 0 ≤ a by omega), if_pos (show a < ((60 : Nat) : Int) by omega)]
    refine ih _ (acc ++ [a]) (by simp; omega) (fun l hc => ?_)
    obtain ⟨n, rfl⟩ : ∃ n : Nat, a = n := ⟨a.toNat, by omega⟩
    have := h (n :: l) ⟨rfl, by omega, hc⟩
    simpa using this
theorem rd_map {U : List Nat} {n : Nat} (h : n < U.length) : rd (U.map (fun n : Nat => (n : Int))) (n : Int) = (U[n] : Nat) := by
  rw [rd_get (by simpa using h)]; simp
theorem impl_F_loop (s : List S97) (hs : s.length = 60) (p q r t b : Int) (F : List Nat) (hF : ∀ x ∈ F, x < 60) (hl : F.length ≤ 60) : ∀ n, n ≤ F.length → ∀ w : Bool, (w = true ↔ okF s (F.drop n) ∧ q = b) → Ev (fun k => impl_QueueOk.l1 k b (F.map (fun n : Nat => (n : Int))) (F.length : Int) (n : Int) s p q r t) w := by
  refine down ?_ ?_
  · intro w hw
    refine sh 1 ?_
    simp only [impl_QueueOk.l1, Int.lt_irrefl, if_false]
    refine ev ?_
    rw [Bool.eq_iff_iff, hw]
    simp [okF]
  · intro n hn ih w hw
    have hx : F[n] < 60 := hF _ (List.getElem_mem hn)
    rw [drop_cons hn] at hw
    simp only [okF] at hw
    refine sh 1 ?_
    simp only [impl_QueueOk.l1, List.length_map, hs, lt_cast hn, Int.natCast_nonneg, if_true, rd_map hn, if_pos (show ((F[n] : Nat) : Int) < ((60 : Nat) : Int) by omega), wsucc hn (show F.length ≤ 9223372036854775807 by omega)]
    generalize rd_T97 s ((F[n] : Nat) : Int) = z at hw ⊢
    refine ite (fun h => ev ?_) (fun h => ite (fun h2 => ite (fun h3 => ?_) (fun h3 => ev ?_)) (fun h2 => ev ?_))
    · exact (Bool.eq_false_iff.2 (fun e => by have := (hw.1 e).1.1; simp [h] at this)).symm
    · exact ih w (hw.trans ⟨fun x => ⟨x.1.2.2.2, x.2⟩, fun x => ⟨⟨by simpa using h, h2, h3, x.1⟩, x.2⟩⟩)
    · exact (Bool.eq_false_iff.2 (fun e => h3 (hw.1 e).1.2.2.1)).symm
    · exact (Bool.eq_false_iff.2 (fun e => h2 (hw.1 e).1.2.1)).symm
theorem impl_U_loop (s : List S97) (hs : s.length = 60) (p q r t : Int) (U F : List Nat) (hU : ∀ x ∈ U, x < 60) (hF : ∀ x ∈ F, x < 60) (hul : U.length ≤ 60) (hl : F.length ≤ 60) : ∀ n, n ≤ U.length → ∀ (b : Int) (ids : List Int) (w : Bool), ids.length ≤ n → (w = true ↔ okU s b ids (U.drop n) ∧ okF s F ∧ q = lastOf b (U.drop n)) →
    Ev (fun k => impl_QueueOk.l0 k (F.map (fun n : Nat => (n : Int))) b ids (U.map (fun n : Nat => (n : Int))) (U.length : Int) (n : Int) s p q r t) w := by
  refine down ?_ ?_
  · intro b ids w _ hw
    refine sh 1 ?_
    simp only [impl_QueueOk.l0, Int.lt_irrefl, if_false, List.length_map]
    exact impl_F_loop s hs p q r t b F hF hl 0 (Nat.zero_le _) w (hw.trans (by simp [okU, lastOf]))
  · intro n hn ih b ids w hids hw
    have hx : U[n] < 60 := hU _ (List.getElem_mem hn)
    rw [drop_cons hn] at hw
    simp only [okU, lastOf] at hw
    refine sh 1 ?_
    simp only [impl_QueueOk.l0, List.length_map, hs, lt_cast hn, Int.natCast_nonneg, if_true, rd_map hn, if_pos (show ((U[n] : Nat) : Int) < ((60 : Nat) : Int) by omega), wsucc hn (show U.length ≤ 9223372036854775807 by omega), isId_eq, Option.bind_some, decide_eq_true_eq]
    generalize rd_T97 s ((U[n] : Nat) : Int) = z at hw ⊢
    have no : ¬ w = true → false = w := fun h => (Bool.eq_false_iff.2 h).symm
    refine ite (fun h => ite (fun h2 => ite (fun h3 => ?_) (fun h3 => ev (no fun e => h3 (hw.1 e).1.2.1))) (fun h2 => ev (no fun e => h2 (hw.1 e).1.2.2.1))) (fun h => ev (no fun e => h (hw.1 e).1.1))
    refine bnd (contains_ev ids z.f0 (by omega)) ?_
    simp only [decide_eq_true_eq]
    refine ite (fun h4 => ev (no fun e => (hw.1 e).1.2.2.2.1 h4)) (fun h4 => ?_)
    simp only [if_pos (show ids.length < 17592186044416 by omega)]
    exact ih _ _ w (by simp; omega) (hw.trans ⟨fun x => ⟨x.1.2.2.2.2, x.2⟩, fun x => ⟨⟨h, h3, h2, h4, x.1⟩, x.2⟩⟩)
theorem impl_QueueOk_ev (s : List S97) (p q r t : Int) (w : Bool) (hw : w = true ↔ QOk s p q r t) : Ev (fun k => impl_QueueOk.f k s p q r t) w := by
  unfold impl_QueueOk.f
  have no : ¬ w = true → false = w := fun h => (Bool.eq_false_iff.2 h).symm
  refine ite (fun hs => ?_) (fun hs => ev (no fun e => hs (by have := (hw.1 e).1; omega)))
  have hs : s.length = 60 := by omega
  have look : ∀ a : Int, (∃ l, Chain s a l ∧ l.length ≤ 60 ∧ Ev (fun k => impl_Queue_walk.f k s p q r t a) (l.map (fun n : Nat => (n : Int)), true)) ∨ ((∀ l, Chain s a l → 60 < l.length) ∧ Ev (fun k => impl_Queue_walk.f k s p q r t a) ([], false)) := by
    intro a
    by_cases h : ∃ l, Chain s a l ∧ l.length ≤ 60
    · obtain ⟨l, h1, h2⟩ := h
      exact .inl ⟨l, h1, h2, eqv (walk_yes s hs p q r t l a [] h1 (by simpa using h2)) (by simp)⟩
    · have h2 : ∀ l, Chain s a l → 60 < l.length := fun l hc => by
        rcases Nat.lt_or_ge 60 l.length with h3 | h3
        · exact h3
        · exact absurd ⟨l, hc, h3⟩ h
      exact .inr ⟨h2, walk_no s hs p q r t 60 a [] (by simp) h2⟩
  have bad : ∀ (x y : List Int) , Ev (fun k => impl_QueueOk.j0 k x y true s p q r t) false := fun x y => by
    refine sh 1 ?_; simp only [impl_QueueOk.j0, if_true]; exact ev rfl
  rcases look p with ⟨U, u1, u2, u3⟩ | ⟨u1, u3⟩
  · rcases look r with ⟨F, f1, f2, f3⟩ | ⟨f1, f3⟩
    · refine bnd u3 (bnd f3 ?_)
      simp only [if_true, List.length_map]
      have hsum : wrap64 ((U.length : Int) + (F.length : Int)) = (U.length : Int) + (F.length : Int) := wid (by omega) (by omega)
      rw [hsum]
      refine ite (fun hc => ?_) (fun hc => eqv (bad _ _) (no fun e => ?_))
      · by_cases h60 : (U.length : Int) + (F.length : Int) = 60
        · rw [h60]
          refine sh 1 ?_
          simp only [impl_QueueOk.j0, bne_self_eq_false, Bool.false_eq_true, if_false, List.length_map]
          refine impl_U_loop s hs p q r t U F (chain_lt _ _ u1) (chain_lt _ _ f1) u2 f2 0 (Nat.zero_le _) (-1) [] w (Nat.le_refl _) (hw.trans ?_)
          simp only [List.drop_zero]
          constructor
          · rintro ⟨_, U', F', c1, c2, c3, c4, _, _, c7⟩
            rw [chain_fn _ _ _ c1 u1] at c3 c7; rw [chain_fn _ _ _ c2 f1] at c4
            exact ⟨c3, c4, c7⟩
          · rintro ⟨c3, c4, c7⟩
            exact ⟨hs, U, F, u1, f1, c3, c4, hc, by omega, c7⟩
        · have hb : ((U.length : Int) + (F.length : Int) != 60) = true := by simpa using h60
          rw [hb]
          refine eqv (bad _ _) (no fun e => ?_)
          obtain ⟨_, U', F', c1, c2, c3, c4, _, c6, c7⟩ := hw.1 e
          rw [chain_fn _ _ _ c1 u1, chain_fn _ _ _ c2 f1] at c6
          omega
      · obtain ⟨_, U', F', c1, c2, c3, c4, c5, c6, c7⟩ := hw.1 e
        rw [chain_fn _ _ _ c1 u1] at c5
        exact hc c5
    · refine bnd u3 (bnd f3 ?_)
      simp only [if_true, Bool.false_eq_true, if_false]
      refine eqv (bad _ _) (no fun e => ?_)
      obtain ⟨_, U', F', c1, c2, c3, c4, c5, c6, c7⟩ := hw.1 e
      have := f1 _ c2; omega
  · have u4 : ¬ w = true := fun e => by
      obtain ⟨_, U', F', c1, c2, c3, c4, c5, c6, c7⟩ := hw.1 e
      have := u1 _ c1; omega
    rcases look r with ⟨F, f1, f2, f3⟩ | ⟨f1, f3⟩
    · refine bnd u3 (bnd f3 ?_)
      simp only [Bool.false_eq_true, if_false]
      exact eqv (bad _ _) (no u4)
    · refine bnd u3 (bnd f3 ?_)
      simp only [Bool.false_eq_true, if_false]
      exact eqv (bad _ _) (no u4)
theorem seen_get {seen : List Bool} {n : Nat} : rdOf false seen (n : Int) = seen.getD n false := by unfold rdOf; rw [Int.toNat_natCast]
theorem seen_set {seen : List Bool} {n x : Nat} (h : n < seen.length) : (seen.set n true).getD x false = if n = x then true else seen.getD x false := by
  rw [List.getD_eq_getElem?_getD, List.getD_eq_getElem?_getD, List.getElem?_set]
  split
  · rename_i e; subst e; simp [h]
  · rfl
theorem seen_count {seen : List Bool} {n : Nat} (h : n < seen.length) (hf : seen.getD n false = false) : (seen.set n true).count false + 1 = seen.count false := by
  have hf2 : seen[n] = false := by rw [← getD_get false h]; exact hf
  have h1 := List.count_set (a := true) (b := false) (l := seen) (i := n) h
  have h2 : 0 < seen.count false := List.count_pos_iff.2 (by rw [← hf2]; exact List.getElem_mem h)
  rw [hf2] at h1
  simp at h1
  omega
theorem spec_F_loop (s : List S97) (hs : s.length = 60) (p q r t : Int) : ∀ (m : Nat) (seen : List Bool) (c : Nat) (a : Int) (w : Bool), seen.length = 60 → seen.count false = m → c + m = 60 → (∀ F, Chain s a F → okF s F → ∀ x ∈ F, seen.getD x false = false) → (w = true ↔ ∃ F, Chain s a F ∧ okF s F ∧ c + F.length = 60) →
    Ev (fun k => spec_QueueOk.l1 k seen (c : Int) a s p q r t) w := by
  intro m
  induction m with
  | zero =>
    intro seen c a w hl hm hc hd hw
    have no : ¬ w = true → false = w := fun h => (Bool.eq_false_iff.2 h).symm
    refine sh 2 ?_
    simp only [spec_QueueOk.l1, l01In_eq, Option.bind_some, decide_eq_true_eq]
    refine ite (fun h => ev ?_) (fun h => ?_)
    · rw [Bool.eq_iff_iff, hw, beq_iff_eq]
      exact ⟨fun e => ⟨[], h, trivial, by simp; omega⟩, fun ⟨F, h1, _, h3⟩ => by rw [h] at h1; rw [chain_end h1] at h3; simp at h3; omega⟩
    · refine ite (fun h2 => ?_) (fun h2 => ?_)
      · obtain ⟨n, rfl⟩ : ∃ n : Nat, a = n := ⟨a.toNat, by omega⟩
        have ht : seen.getD n false = true := by
          rw [← Bool.not_eq_false]; intro hf
          have := seen_count (n := n) (by omega) hf
          omega
        simp only [if_pos h2.1, if_pos (show (n : Int) < (seen.length : Int) by omega), seen_get, ht, spec_QueueOk.j5, if_true]
        refine ev (no fun e => ?_)
        obtain ⟨F, h3, h4, _⟩ := hw.1 e
        obtain ⟨F', rfl, _⟩ := chain_at h3
        rw [hd _ h3 h4 n List.mem_cons_self] at ht; cases ht
      · simp only [spec_QueueOk.j5, if_true]
        exact ev (no fun e => by obtain ⟨F, h3, _⟩ := hw.1 e; exact chain_no h h2 h3)
  | succ m ih =>
    intro seen c a w hl hm hc hd hw
    have no : ¬ w = true → false = w := fun h => (Bool.eq_false_iff.2 h).symm
    refine sh 2 ?_
    simp only [spec_QueueOk.l1, l01In_eq, Option.bind_some, decide_eq_true_eq]
    refine ite (fun h => ev ?_) (fun h => ?_)
    · rw [Bool.eq_iff_iff, hw, beq_iff_eq]
      exact ⟨fun e => ⟨[], h, trivial, by simp; omega⟩, fun ⟨F, h1, _, h3⟩ => by rw [h] at h1; rw [chain_end h1] at h3; simp at h3; omega⟩
    · refine ite (fun h2 => ?_) (fun h2 => ?_)
      · obtain ⟨n, rfl⟩ : ∃ n : Nat, a = n := ⟨a.toNat, by omega⟩
        have hw1 : wrap64 ((c : Int) + 1) = ((c + 1 : Nat) : Int) := (wid (by omega) (by omega)).trans (by omega)
        simp only [if_pos h2.1, if_pos (show (n : Int) < (seen.length : Int) by omega), seen_get, spec_QueueOk.j5, if_pos (show (n : Int) < (s.length : Int) by omega), hw1, Int.toNat_natCast]
        refine ite (fun ht => ev (no fun e => ?_)) (fun hf => ?_)
        · obtain ⟨F, h3, h4, _⟩ := hw.1 e
          obtain ⟨F', rfl, _⟩ := chain_at h3
          rw [hd _ h3 h4 n List.mem_cons_self] at ht; cases ht
        · have hf : seen.getD n false = false := by simpa using hf
          have key : ∀ (w' : Bool), w' = w → ((rd_T97 s (n : Int)).f3 = false ∧ (rd_T97 s (n : Int)).f0 = 0 ∧ (rd_T97 s (n : Int)).f1 = -1 → Ev (fun k => spec_QueueOk.l1 k (seen.set n true) ((c + 1 : Nat) : Int) (rd_T97 s (n : Int)).f2 s p q r t) w') := by
            rintro w' rfl ⟨k1, k2, k3⟩
            have hcnt := seen_count (n := n) (by omega) hf
            refine ih (seen.set n true) (c + 1) _ w' (by simpa using hl) (by omega) (by omega) ?_ (hw.trans ⟨?_, ?_⟩)
            · intro F h3 h4 x hx
              have h5 : Chain s (n : Int) (n :: F) := ⟨rfl, by omega, h3⟩
              have h6 := hd _ h5 ⟨k1, k2, k3, h4⟩ x (List.mem_cons_of_mem _ hx)
              rw [seen_set (by omega), if_neg, h6]
              rintro rfl
              exact (List.nodup_cons.1 (chain_nodup _ _ h5)).1 hx
            · rintro ⟨F, h3, h4, h5⟩
              obtain ⟨F', rfl, _, h6⟩ := chain_at h3
              exact ⟨F', h6, h4.2.2.2, by simp at h5; omega⟩
            · rintro ⟨F, h3, h4, h5⟩
              exact ⟨n :: F, ⟨rfl, by omega, h3⟩, ⟨k1, k2, k3, h4⟩, by simp; omega⟩
          have bad : ¬ ((rd_T97 s (n : Int)).f3 = false ∧ (rd_T97 s (n : Int)).f0 = 0 ∧ (rd_T97 s (n : Int)).f1 = -1) → false = w := fun hb => no fun e => by
            obtain ⟨F, h3, h4, _⟩ := hw.1 e
            obtain ⟨F', rfl, _⟩ := chain_at h3
            exact hb ⟨h4.1, h4.2.1, h4.2.2.1⟩
          refine ite (fun g => ev (bad fun x => by rw [x.1] at g; cases g)) (fun g => ite (fun g2 => ite (fun g3 => key w rfl ⟨by simpa using g, g2, g3⟩) (fun g3 => ev (bad fun x => g3 x.2.2))) (fun g2 => ev (bad fun x => g2 x.2.1)))
      · simp only [spec_QueueOk.j5, if_true]
        exact ev (no fun e => by obtain ⟨F, h3, _⟩ := hw.1 e; exact chain_no h h2 h3)
def QU (s : List S97) (last free count : Int) (b : Int) (ids : List Int) (c : Nat) (a : Int) : Prop :=
  ∃ U F, Chain s a U ∧ Chain s free F ∧ okU s b ids U ∧ okF s F ∧ (c : Int) + U.length = count ∧ c + U.length + F.length = 60 ∧ last = lastOf b U
theorem spec_U_end (s : List S97) (hs : s.length = 60) (p q r t : Int) (m : Nat) (seen : List Bool) (ids : List Int) (c : Nat) (b a : Int) (w : Bool) (hl : seen.length = 60) (hm : seen.count false = m) (hc : c + m = 60) (hd : ∀ x : Nat, seen.getD x false = true → (rd_T97 s (x : Int)).f0 ∈ ids ∧ (rd_T97 s (x : Int)).f3 = true)
    (hw : w = true ↔ QU s q r t b ids c a) (h : a = -1) : Ev (fun k => if (c : Int) = t then (spec_QueueOk.j3 (k + 1) seen (c : Int) (q != b) s p q r t) else (spec_QueueOk.j3 (k + 1) seen (c : Int) true s p q r t)) w := by
  have no : ¬ w = true → false = w := fun h => (Bool.eq_false_iff.2 h).symm
  subst h
  simp only [spec_QueueOk.j3, if_true, bne_iff_ne, ne_eq]
  refine ite (fun h => ite (fun h2 => ev (no fun e => ?_)) (fun h2 => ?_)) (fun h => ev (no fun e => ?_))
  · obtain ⟨U, F, h3, _, _, _, _, _, h9⟩ := hw.1 e
    rw [chain_end h3] at h9; exact h2 h9
  · refine spec_F_loop s hs p q r t m seen c r w hl hm hc ?_ (hw.trans ⟨?_, ?_⟩)
    · intro F h3 h4 x hx
      rw [← Bool.not_eq_true]; intro h5
      have h6 := (hd x h5).2
      have h7 : ∀ F : List Nat, okF s F → x ∈ F → (rd_T97 s (x : Int)).f3 = false := by
        intro F
        induction F with
        | nil => intro _ hx; simp at hx
        | cons y F ihF =>
          intro hk hx
          rcases List.mem_cons.1 hx with rfl | hx
          · exact hk.1
          · exact ihF hk.2.2.2 hx
      rw [h7 F h4 hx] at h6; cases h6
    · rintro ⟨U, F, h3, h4, h5, h6, h7, h8, h9⟩
      rw [chain_end h3] at h8
      exact ⟨F, h4, h6, by simpa using h8⟩
    · rintro ⟨F, h4, h6, h8⟩
      exact ⟨[], F, rfl, h4, trivial, h6, by simpa using h, by simpa using h8, by simpa [lastOf] using h2⟩
  · obtain ⟨U, F, h3, _, _, _, h7, _, _⟩ := hw.1 e
    rw [chain_end h3] at h7; exact h (by simpa using h7)
theorem spec_U_loop (s : List S97) (hs : s.length = 60) (p q r t : Int) : ∀ (m : Nat) (seen : List Bool) (ids : List Int) (c : Nat) (b a : Int) (w : Bool), seen.length = 60 → seen.count false = m → c + m = 60 → ids.length = c → (∀ x : Nat, seen.getD x false = true → (rd_T97 s (x : Int)).f0 ∈ ids ∧ (rd_T97 s (x : Int)).f3 = true) → (w = true ↔ QU s q r t b ids c a) →
    Ev (fun k => spec_QueueOk.l0 k seen ids (c : Int) b a s p q r t) w := by
  intro m
  induction m with
  | zero =>
    intro seen ids c b a w hl hm hc hi hd hw
    have no : ¬ w = true → false = w := fun h => (Bool.eq_false_iff.2 h).symm
    refine sh 2 ?_
    simp only [spec_QueueOk.l0, l01In_eq, Option.bind_some, decide_eq_true_eq]
    refine ite (fun h => spec_U_end s hs p q r t 0 seen ids c b a w hl hm hc hd hw h) (fun h => ?_)
    refine ite (fun h2 => ?_) (fun h2 => ?_)
    · obtain ⟨n, rfl⟩ : ∃ n : Nat, a = n := ⟨a.toNat, by omega⟩
      have ht : seen.getD n false = true := by
        rw [← Bool.not_eq_false]; intro hf
        have := seen_count (n := n) (by omega) hf
        omega
      simp only [if_pos h2.1, if_pos (show (n : Int) < (seen.length : Int) by omega), seen_get, ht, spec_QueueOk.j2, if_true]
      refine ev (no fun e => ?_)
      obtain ⟨U, F, h3, _, h4, _⟩ := hw.1 e
      obtain ⟨U', rfl, _⟩ := chain_at h3
      exact h4.2.2.2.1 (hd n ht).1
    · simp only [spec_QueueOk.j2, if_true]
      exact ev (no fun e => by obtain ⟨U, F, h3, _⟩ := hw.1 e; exact chain_no h h2 h3)
  | succ m ih =>
    intro seen ids c b a w hl hm hc hi hd hw
    have no : ¬ w = true → false = w := fun h => (Bool.eq_false_iff.2 h).symm
    refine sh 2 ?_
    simp only [spec_QueueOk.l0, l01In_eq, Option.bind_some, decide_eq_true_eq]
    refine ite (fun h => spec_U_end s hs p q r t (m + 1) seen ids c b a w hl hm hc hd hw h) (fun h => ?_)
    refine ite (fun h2 => ?_) (fun h2 => ?_)
    · obtain ⟨n, rfl⟩ : ∃ n : Nat, a = n := ⟨a.toNat, by omega⟩
      have hw1 : wrap64 ((c : Int) + 1) = ((c + 1 : Nat) : Int) := (wid (by omega) (by omega)).trans (by omega)
      simp only [if_pos h2.1, if_pos (show (n : Int) < (seen.length : Int) by omega), seen_get, spec_QueueOk.j2, if_pos (show (n : Int) < (s.length : Int) by omega), hw1, Int.toNat_natCast, l01In_eq, Option.bind_some, decide_eq_true_eq]
      have bad : ∀ P : Prop, ((rd_T97 s (n : Int)).f3 = true ∧ (rd_T97 s (n : Int)).f1 = b ∧ (1 ≤ (rd_T97 s (n : Int)).f0 ∧ (rd_T97 s (n : Int)).f0 ≤ 1000000000) ∧ (rd_T97 s (n : Int)).f0 ∉ ids → P) → ¬ P → false = w := fun P hP hn => no fun e => by
        obtain ⟨U, F, h3, _, h4, _⟩ := hw.1 e
        obtain ⟨U', rfl, _⟩ := chain_at h3
        exact hn (hP ⟨h4.1, h4.2.1, h4.2.2.1, h4.2.2.2.1⟩)
      refine ite (fun ht => ev (bad _ (fun x => x.2.2.2) (fun x => x (hd n ht).1))) (fun hf => ?_)
      have hf : seen.getD n false = false := by simpa using hf
      refine ite (fun g => ite (fun g2 => ite (fun g3 => ?_) (fun g3 => ev (bad _ (fun x => x.2.2.1) g3))) (fun g2 => ev (bad _ (fun x => x.2.1) g2))) (fun g => ev (bad _ (fun x => x.1) g))
      refine bnd (l01Has_ev ids _ (by omega)) ?_
      simp only [decide_eq_true_eq]
      refine ite (fun g4 => ev (bad _ (fun x => x.2.2.2) (fun x => x g4))) (fun g4 => ?_)
      simp only [if_pos (show ids.length < 17592186044416 by omega)]
      have hcnt := seen_count (n := n) (by omega) hf
      refine ih (seen.set n true) (ids ++ [(rd_T97 s (n : Int)).f0]) (c + 1) (n : Int) _ w (by simpa using hl) (by omega) (by omega) (by simp [hi]) ?_ (hw.trans ⟨?_, ?_⟩)
      · intro x hx
        rw [seen_set (by omega)] at hx
        split at hx
        · rename_i e; subst e; exact ⟨by simp, g⟩
        · have := hd x hx; exact ⟨List.mem_append_left _ this.1, this.2⟩
      · rintro ⟨U, F, h3, h4, h5, h6, h7, h8, h9⟩
        obtain ⟨U', rfl, _, h10⟩ := chain_at h3
        exact ⟨U', F, h10, h4, h5.2.2.2.2, h6, by simp at h7; omega, by simp at h8; omega, h9⟩
      · rintro ⟨U, F, h3, h4, h5, h6, h7, h8, h9⟩
        exact ⟨n :: U, F, ⟨rfl, by omega, h3⟩, h4, ⟨g, g2, g3, g4, h5⟩, h6, by simp; omega, by simp; omega, h9⟩
    · simp only [spec_QueueOk.j2, if_true]
      exact ev (no fun e => by obtain ⟨U, F, h3, _⟩ := hw.1 e; exact chain_no h h2 h3)
theorem spec_QueueOk_ev (s : List S97) (p q r t : Int) (w : Bool) (hw : w = true ↔ QOk s p q r t) : Ev (fun k => spec_QueueOk.f k s p q r t) w := by
  unfold spec_QueueOk.f
  have no : ¬ w = true → false = w := fun h => (Bool.eq_false_iff.2 h).symm
  refine ite (fun hs => ?_) (fun hs => ?_)
  · have hs : s.length = 60 := by omega
    simp only [l01In_eq, Option.bind_some]
    refine sh 1 ?_
    by_cases h : 0 ≤ t ∧ t ≤ 60
    · simp only [spec_QueueOk.j0, decide_eq_true h, Bool.not_true, Bool.false_eq_true, if_false, if_pos (show 60 ≤ 281474976710656 by omega)]
      refine spec_U_loop s hs p q r t 60 (List.replicate 60 false) [] 0 (-1) p w (by simp) (by simp) rfl rfl ?_ (hw.trans ?_)
      · intro x hx
        rw [List.getD_eq_getElem?_getD, List.getElem?_replicate] at hx
        split at hx <;> simp at hx
      · constructor
        · rintro ⟨_, U, F, c1, c2, c3, c4, c5, c6, c7⟩
          exact ⟨U, F, c1, c2, c3, c4, by omega, by omega, c7⟩
        · rintro ⟨U, F, c1, c2, c3, c4, c5, c6, c7⟩
          exact ⟨hs, U, F, c1, c2, c3, c4, by omega, by omega, c7⟩
    · simp only [spec_QueueOk.j0, decide_eq_false h, Bool.not_false, if_true]
      refine ev (no fun e => ?_)
      obtain ⟨_, U, F, c1, c2, c3, c4, c5, c6, c7⟩ := hw.1 e
      omega
  · refine sh 1 ?_
    simp only [spec_QueueOk.j0, if_true]
    exact ev (no fun e => hs (by have := (hw.1 e).1; omega))

theorem okU_mem {s : List S97} : ∀ (U : List Nat) (b : Int) (ids : List Int), okU s b ids U → ∀ n ∈ U, (rd_T97 s (n : Int)).f3 = true ∧ (rd_T97 s (n : Int)).f0 ∉ ids ∧ ((rd_T97 s (n : Int)).f1 = b ∨ ∃ m ∈ U, (rd_T97 s (n : Int)).f1 = (m : Int))
  | [], _, _, _, _, hn => by simp at hn
  | x :: U, b, ids, h, n, hn => by
    obtain ⟨h1, h2, _, h4, h5⟩ := h
    rcases List.mem_cons.1 hn with rfl | hn
    · exact ⟨h1, h4, .inl h2⟩
    · obtain ⟨g1, g2, g3⟩ := okU_mem U _ _ h5 n hn
      refine ⟨g1, fun e => g2 (List.mem_append_left _ e), .inr ?_⟩
      rcases g3 with g3 | ⟨m, hm, g3⟩
      · exact ⟨x, List.mem_cons_self, g3⟩
      · exact ⟨m, List.mem_cons_of_mem _ hm, g3⟩
theorem okU_inj {s : List S97} : ∀ (U : List Nat) (b : Int) (ids : List Int), okU s b ids U → ∀ m ∈ U, ∀ n ∈ U, (rd_T97 s (m : Int)).f0 = (rd_T97 s (n : Int)).f0 → m = n
  | [], _, _, _, _, hm, _, _, _ => by simp at hm
  | x :: U, b, ids, h, m, hm, n, hn, e => by
    obtain ⟨_, _, _, _, h5⟩ := h
    rcases List.mem_cons.1 hm with e1 | hm2
    · rcases List.mem_cons.1 hn with e2 | hn2
      · rw [e1, e2]
      · exact absurd (List.mem_append_right _ (by rw [← e, e1]; simp)) (okU_mem U _ _ h5 n hn2).2.1
    · rcases List.mem_cons.1 hn with e2 | hn2
      · exact absurd (List.mem_append_right _ (by rw [e, e2]; simp)) (okU_mem U _ _ h5 m hm2).2.1
      · exact okU_inj U _ _ h5 m hm2 n hn2 e
theorem okF_mem {s : List S97} : ∀ (F : List Nat), okF s F → ∀ n ∈ F, (rd_T97 s (n : Int)).f3 = false
  | [], _, _, hn => by simp at hn
  | x :: F, h, n, hn => by
    rcases List.mem_cons.1 hn with rfl | hn
    · exact h.1
    · exact okF_mem F h.2.2.2 n hn
theorem nodup_le : ∀ (N : Nat) (l : List Nat), l.Nodup → (∀ x ∈ l, x < N) → l.length ≤ N
  | 0, l, _, h => by
    cases l with
    | nil => simp
    | cons x l => have := h x List.mem_cons_self; omega
  | N + 1, l, hd, h => by
    by_cases hm : N ∈ l
    · have h1 := nodup_le N (l.erase N) (hd.erase N) (fun x hx => by
        have h2 := (hd.mem_erase_iff).1 hx
        have := h x h2.2; have := h2.1; omega)
      rw [List.length_erase_of_mem hm] at h1
      omega
    · have := nodup_le N l hd (fun x hx => by
        have h2 := h x hx
        have h3 : x ≠ N := fun e => hm (e ▸ hx)
        omega)
      omega
theorem ok_cover {s : List S97} {a b : Int} {U F : List Nat} (h1 : Chain s a U) (h2 : Chain s b F) (h3 : okU s (-1) [] U) (h4 : okF s F) (h5 : U.length + F.length = 60) (n : Nat) (hn : n < 60) : n ∈ U ∨ n ∈ F := by
  rcases Classical.em (n ∈ U ∨ n ∈ F) with h | h
  · exact h
  · have hd : (n :: (U ++ F)).Nodup := by
      refine List.nodup_cons.2 ⟨fun hm => h (List.mem_append.1 hm), List.nodup_append.2 ⟨chain_nodup _ _ h1, chain_nodup _ _ h2, ?_⟩⟩
      rintro x hx y hy rfl
      have e1 := (okU_mem U _ _ h3 x hx).1
      have e2 := okF_mem F h4 x hy
      rw [e1] at e2; cases e2
    have := nodup_le 60 _ hd (fun x hx => by
      rcases List.mem_cons.1 hx with rfl | hx
      · exact hn
      · rcases List.mem_append.1 hx with hx | hx
        · exact chain_lt _ _ h1 x hx
        · exact chain_lt _ _ h2 x hx)
    simp at this
    omega
theorem find_some {α : Type} (p : α → Bool) : ∀ (l : List α) (n : Nat) (i : Int) (hn : n < l.length), p l[n] = true → (∀ m (hm : m < l.length), p l[m] = true → m = n) → Go.Proofs.Ytnkpjpfmjkiidaa.Giv.findI p l i = i + n
  | [], n, i, hn, _, _ => by simp at hn
  | x :: l, n, i, hn, h, hu => by
    rw [Go.Proofs.Ytnkpjpfmjkiidaa.Giv.findI]
    by_cases hx : p x = true
    · have := hu 0 (by simp) hx
      subst this
      rw [if_pos hx]; simp
    · rw [if_neg hx]
      cases n with
      | zero => exact absurd h hx
      | succ n =>
        rw [find_some p l n (i + 1) (by simpa using hn) h (fun m hm hp => by have := hu (m + 1) (by simpa using hm) hp; omega)]
        omega
theorem find_none {α : Type} (p : α → Bool) : ∀ (l : List α) (i : Int), (∀ x ∈ l, p x = false) → Go.Proofs.Ytnkpjpfmjkiidaa.Giv.findI p l i = -1
  | [], _, _ => rfl
  | x :: l, i, h => by
    rw [Go.Proofs.Ytnkpjpfmjkiidaa.Giv.findI, if_neg (by rw [h x List.mem_cons_self]; decide)]
    exact find_none p l (i + 1) (fun y hy => h y (List.mem_cons_of_mem _ hy))
/-- The place of an id: of the used slots the first. -/
def plI (s : List S97) (x : Int) : Int := Go.Proofs.Ytnkpjpfmjkiidaa.Giv.findI (fun d : S97 => d.f3 && d.f0 == x) s 0
/-- The same along a way. -/
def plc (s : List S97) (x : Int) : List Nat → Int
  | [] => -1
  | n :: U => if (rd_T97 s (n : Int)).f0 = x then (n : Int) else plc s x U
theorem plc_cases (s : List S97) (x : Int) : ∀ U : List Nat, (∃ n ∈ U, plc s x U = (n : Int) ∧ (rd_T97 s (n : Int)).f0 = x) ∨ (plc s x U = -1 ∧ ∀ n ∈ U, (rd_T97 s (n : Int)).f0 ≠ x)
  | [] => .inr ⟨rfl, by simp⟩
  | n :: U => by
    by_cases h : (rd_T97 s (n : Int)).f0 = x
    · exact .inl ⟨n, List.mem_cons_self, by simp [plc, h], h⟩
    · rcases plc_cases s x U with ⟨m, hm, h1, h2⟩ | ⟨h1, h2⟩
      · exact .inl ⟨m, List.mem_cons_of_mem _ hm, by simp [plc, h, h1], h2⟩
      · refine .inr ⟨by simp [plc, h, h1], fun y hy => ?_⟩
        rcases List.mem_cons.1 hy with rfl | hy
        · exact h
        · exact h2 y hy
theorem plc_eq {s : List S97} (hs : s.length = 60) {a b : Int} {U F : List Nat} (h1 : Chain s a U) (h2 : Chain s b F) (h3 : okU s (-1) [] U) (h4 : okF s F) (h5 : U.length + F.length = 60) (x : Int) : plc s x U = plI s x := by
  have inU : ∀ m (hm : m < s.length), (s[m].f3 && s[m].f0 == x) = true → m ∈ U ∧ (rd_T97 s (m : Int)).f0 = x := by
    intro m hm hp
    rw [Bool.and_eq_true, beq_iff_eq] at hp
    rw [rdB_Slot hm]
    refine ⟨?_, hp.2⟩
    rcases ok_cover h1 h2 h3 h4 h5 m (by omega) with h | h
    · exact h
    · have := okF_mem F h4 m h
      rw [rdB_Slot hm, hp.1] at this; cases this
  unfold plI
  rcases plc_cases s x U with ⟨n, hn, e1, e2⟩ | ⟨e1, e2⟩
  · have hlt : n < s.length := by have := chain_lt _ _ h1 n hn; omega
    have hu := okU_mem U _ _ h3 n hn
    rw [e1, find_some _ s n 0 hlt (by rw [rdB_Slot hlt] at hu e2; rw [hu.1, e2]; simp) (fun m hm hp => ?_)]
    · omega
    · obtain ⟨g1, g2⟩ := inU m hm hp
      exact okU_inj U _ _ h3 m g1 n hn (by rw [g2, e2])
  · rw [e1, find_none]
    intro y hy
    obtain ⟨m, hm, rfl⟩ := List.getElem_of_mem hy
    cases hb : (s[m].f3 && s[m].f0 == x) with
    | false => rfl
    | true => obtain ⟨g1, g2⟩ := inU m hm hb; exact absurd g2 (e2 m g1)
theorem spec_PlaceOf_loop (s : List S97) (hs : s.length = 60) (x p q r t : Int) : ∀ (U : List Nat) (a : Int), Chain s a U → Ev (fun k => spec_PlaceOf.l0 k x a s p q r t) (plc s x U) := by
  intro U
  induction U with
  | nil =>
    intro a h
    have h3 : a = -1 := h
    refine sh 1 ?_
    simp only [spec_PlaceOf.l0, h3, if_true]
    exact ev rfl
  | cons n U ih =>
    intro a h
    obtain ⟨rfl, hn, h2⟩ := h
    refine sh 1 ?_
    simp only [spec_PlaceOf.l0, hs, if_neg (show ¬ (n : Int) = -1 by omega), if_pos (show 0 ≤ (n : Int) by omega), if_pos (show (n : Int) < ((60 : Nat) : Int) by omega), plc]
    exact ite (fun g => ev (by rw [if_pos g])) (fun g => eqv (ih _ h2) (by rw [if_neg g]))
theorem spec_PlaceOf_yes (s : List S97) (p q r t x : Int) (h : QOk s p q r t) : Ev (fun k => spec_PlaceOf.f k s p q r t x) (plI s x) := by
  unfold spec_PlaceOf.f
  obtain ⟨hs, U, F, u1, u2, u3, u4, u5, u6, u7⟩ := id h
  refine bnd (spec_QueueOk_ev s p q r t true (by simp [h])) ?_
  simp only [if_true]
  exact eqv (spec_PlaceOf_loop s hs x p q r t U p u1) (plc_eq hs u1 u2 u3 u4 u6 x)
theorem spec_PlaceOf_no (s : List S97) (p q r t x : Int) (h : ¬ QOk s p q r t) : Ev (fun k => spec_PlaceOf.f k s p q r t x) (-1) := by
  unfold spec_PlaceOf.f
  refine bnd (spec_QueueOk_ev s p q r t false (by simp [h])) ?_
  simp only [Bool.false_eq_true, if_false]
  exact ev rfl
theorem impl_PlaceOf_yes (s : List S97) (p q r t x : Int) (h : QOk s p q r t) : Ev (fun k => impl_PlaceOf.f k s p q r t x) (plI s x) := by
  unfold impl_PlaceOf.f
  refine bnd (impl_QueueOk_ev s p q r t true (by simp [h])) ?_
  simp only [if_true]
  exact ev rfl
theorem impl_PlaceOf_no (s : List S97) (p q r t x : Int) (h : ¬ QOk s p q r t) : Ev (fun k => impl_PlaceOf.f k s p q r t x) (-1) := by
  unfold impl_PlaceOf.f
  refine bnd (impl_QueueOk_ev s p q r t false (by simp [h])) ?_
  simp only [Bool.false_eq_true, if_false]
  exact ev rfl
/-- Where an id lies. -/
theorem plI_mem {s : List S97} {p q r t x : Int} (h : QOk s p q r t) (h0 : ¬ plI s x < 0) : ∃ n : Nat, plI s x = (n : Int) ∧ n < 60 ∧ (rd_T97 s (n : Int)).f3 = true ∧ (rd_T97 s (n : Int)).f0 = x := by
  obtain ⟨hs, U, F, u1, u2, u3, u4, u5, u6, u7⟩ := h
  rw [← plc_eq hs u1 u2 u3 u4 u6 x] at h0 ⊢
  rcases plc_cases s x U with ⟨n, hn, e1, e2⟩ | ⟨e1, e2⟩
  · exact ⟨n, e1, chain_lt _ _ u1 n hn, (okU_mem U _ _ u3 n hn).1, e2⟩
  · rw [e1] at h0; omega

theorem l02Copy_loop (s : List S97) (p q r t : Int) (hs : s.length ≤ 1048576) : ∀ n, n ≤ s.length → ∀ acc : List S97, acc = s.take n → Ev (fun k => spec_l02Copy.l0 k (n : Int) s p q r t acc p q r t) (s, p, q, r, t) := by
  refine down ?_ ?_
  · rintro acc rfl
    refine sh 1 ?_
    simp only [spec_l02Copy.l0, Int.lt_irrefl, if_false]
    exact ev (by simp)
  · rintro n hn ih acc rfl
    refine sh 1 ?_
    simp only [spec_l02Copy.l0, lt_cast hn, Int.natCast_nonneg, if_true, if_pos (show (s.take n).length < 4398046511104 by rw [List.length_take]; omega), wsucc hn (show s.length ≤ 9223372036854775807 by omega)]
    refine ih _ ?_
    rw [rdB_Slot hn, List.take_succ_eq_append_getElem hn]
theorem l02Copy_ev (s : List S97) (p q r t : Int) (hs : s.length ≤ 1048576) : Ev (fun k => spec_l02Copy.f k s p q r t) (s, p, q, r, t) := by
  unfold spec_l02Copy.f
  exact l02Copy_loop s p q r t hs 0 (Nat.zero_le _) [] (by simp)
theorem ownQueue_eq (s : List S97) (p q r t : Int) (hs : s.length ≤ 1048576) : impl_ownQueue.f s p q r t = some (s, p, q, r, t) := by
  unfold impl_ownQueue.f impl_Slot_87.f
  simp only [Option.bind_some, List.length_nil, if_pos (show 0 + s.length < 4398046511104 by omega), List.nil_append]
/-- A link of a used slot: none, or a place. -/
theorem link_prev {s : List S97} {p q r t : Int} (h : QOk s p q r t) {n : Nat} (hn : n < 60) (hu : (rd_T97 s (n : Int)).f3 = true) : (rd_T97 s (n : Int)).f1 = -1 ∨ ∃ m : Nat, m < 60 ∧ (rd_T97 s (n : Int)).f1 = (m : Int) := by
  obtain ⟨hs, U, F, u1, u2, u3, u4, u5, u6, u7⟩ := h
  rcases ok_cover u1 u2 u3 u4 u6 n hn with hm | hm
  · rcases (okU_mem U _ _ u3 n hm).2.2 with h1 | ⟨m, hm, h1⟩
    · exact .inl h1
    · exact .inr ⟨m, chain_lt _ _ u1 m hm, h1⟩
  · have := okF_mem F u4 n hm
    rw [hu] at this; cases this
theorem chain_next {s : List S97} : ∀ (l : List Nat) (a : Int), Chain s a l → ∀ n ∈ l, (rd_T97 s (n : Int)).f2 = -1 ∨ ∃ m : Nat, m < 60 ∧ (rd_T97 s (n : Int)).f2 = (m : Int)
  | [], _, _, _, hn => by simp at hn
  | x :: l, a, h, n, hn => by
    rcases List.mem_cons.1 hn with rfl | hn
    · cases l with
      | nil => exact .inl h.2.2
      | cons y l => exact .inr ⟨y, h.2.2.2.1, h.2.2.1⟩
    · exact chain_next l _ h.2.2 n hn
theorem link_next {s : List S97} {p q r t : Int} (h : QOk s p q r t) {n : Nat} (hn : n < 60) : (rd_T97 s (n : Int)).f2 = -1 ∨ ∃ m : Nat, m < 60 ∧ (rd_T97 s (n : Int)).f2 = (m : Int) := by
  obtain ⟨hs, U, F, u1, u2, u3, u4, u5, u6, u7⟩ := h
  rcases ok_cover u1 u2 u3 u4 u6 n hn with hm | hm
  · exact chain_next _ _ u1 n hm
  · exact chain_next _ _ u2 n hm
theorem last_ok : ∀ (U : List Nat) (b : Int), lastOf b U = b ∨ ∃ m ∈ U, lastOf b U = (m : Int)
  | [], _ => .inl rfl
  | n :: U, _ => by
    rcases last_ok U (n : Int) with h | ⟨m, hm, h⟩
    · exact .inr ⟨n, List.mem_cons_self, h⟩
    · exact .inr ⟨m, List.mem_cons_of_mem _ hm, h⟩
theorem RemoveAt_key (s : List S97) (p q r t : Int) (h : QOk s p q r t) (n : Nat) (hn : n < 60) (hu : (rd_T97 s (n : Int)).f3 = true) : ∃ R : List S97 × Int × Int × Int × Int × Int, R.1.length = 60 ∧ Ev (fun k => spec_RemoveAt.f k s p q r t (n : Int)) R ∧ Ev (fun k => impl_RemoveAt.f k s p q r t (n : Int)) R := by
  have hs := h.1
  have c1 := l02Copy_ev s p q r t (by omega)
  have c2 := ownQueue_eq s p q r t (by omega)
  have q1 := spec_QueueOk_ev s p q r t true (by simp [h])
  have q2 := impl_QueueOk_ev s p q r t true (by simp [h])
  have g1 : (0 : Int) ≤ (n : Int) := by omega
  have g2 : (n : Int) < ((60 : Nat) : Int) := by omega
  have g4 : (n : Int) ≤ 59 := by omega
  unfold spec_RemoveAt.f impl_RemoveAt.f
  rcases link_prev h hn hu with hp | ⟨a, ha, hp⟩
  · rcases link_next h hn with hx | ⟨b, hb, hx⟩
    · refine ⟨(s.set n (⟨0, -1, r, false⟩ : S97), -1, -1, (n : Int), wrap64 (t - 1), (rd_T97 s (n : Int)).f0), by simp [hs], ?_, ?_⟩
      · refine bnd c1 (bnd q1 ?_)
        simp only [if_true, l01In_eq, Option.bind_some, g1, g4, and_self, decide_true, hs, g2, hu, Bool.not_true]
        refine sh 1 ?_
        simp only [spec_RemoveAt.j0, Bool.false_eq_true, if_false, g1, g2, hs, if_true, hp, hx]
        exact ev rfl
      · simp only [c2, Option.bind_some]
        refine bnd q2 ?_
        simp only [if_true, in_eq, Option.bind_some, g1, g4, and_self, decide_true, hs, g2, hu, Bool.not_true]
        refine sh 1 ?_
        simp only [impl_RemoveAt.j0, Bool.false_eq_true, if_false, g1, g2, hs, if_true, hp, hx, if_neg (show ¬ (-1 : Int) ≥ 0 by omega)]
        exact ev rfl
    · have b0 : ¬ (b : Int) = -1 := by omega
      have b1 : (b : Int) ≥ 0 := by omega
      have b2 : (0 : Int) ≤ (b : Int) := by omega
      have b3 : (b : Int) < ((60 : Nat) : Int) := by omega
      refine ⟨((s.set b (⟨(rd_T97 s (b : Int)).f0, -1, (rd_T97 s (b : Int)).f2, (rd_T97 s (b : Int)).f3⟩ : S97)).set n (⟨0, -1, r, false⟩ : S97), (b : Int), q, (n : Int), wrap64 (t - 1), (rd_T97 s (n : Int)).f0), by simp [hs], ?_, ?_⟩
      · refine bnd c1 (bnd q1 ?_)
        simp only [if_true, l01In_eq, Option.bind_some, g1, g4, and_self, decide_true, hs, g2, hu, Bool.not_true]
        refine sh 1 ?_
        simp only [spec_RemoveAt.j0, Bool.false_eq_true, if_false, g1, g2, hs, if_true, hp, hx, b0, b2, b3]
        exact ev rfl
      · simp only [c2, Option.bind_some]
        refine bnd q2 ?_
        simp only [if_true, in_eq, Option.bind_some, g1, g4, and_self, decide_true, hs, g2, hu, Bool.not_true]
        refine sh 1 ?_
        simp only [impl_RemoveAt.j0, Bool.false_eq_true, if_false, g1, g2, hs, if_true, hp, hx, if_neg (show ¬ (-1 : Int) ≥ 0 by omega), if_pos b1, b2, b3]
        exact ev rfl
  · have a0 : ¬ (a : Int) = -1 := by omega
    have a1 : (a : Int) ≥ 0 := by omega
    have a2 : (0 : Int) ≤ (a : Int) := by omega
    have a3 : (a : Int) < ((60 : Nat) : Int) := by omega
    rcases link_next h hn with hx | ⟨b, hb, hx⟩
    · refine ⟨((s.set a (⟨(rd_T97 s (a : Int)).f0, (rd_T97 s (a : Int)).f1, -1, (rd_T97 s (a : Int)).f3⟩ : S97)).set n (⟨0, -1, r, false⟩ : S97), p, (a : Int), (n : Int), wrap64 (t - 1), (rd_T97 s (n : Int)).f0), by simp [hs], ?_, ?_⟩
      · refine bnd c1 (bnd q1 ?_)
        simp only [if_true, l01In_eq, Option.bind_some, g1, g4, and_self, decide_true, hs, g2, hu, Bool.not_true]
        refine sh 1 ?_
        simp only [spec_RemoveAt.j0, Bool.false_eq_true, if_false, g1, g2, hs, if_true, hp, hx, a0, a2, a3, Option.bind_some]
        exact ev rfl
      · simp only [c2, Option.bind_some]
        refine bnd q2 ?_
        simp only [if_true, in_eq, Option.bind_some, g1, g4, and_self, decide_true, hs, g2, hu, Bool.not_true]
        refine sh 1 ?_
        simp only [impl_RemoveAt.j0, Bool.false_eq_true, if_false, g1, g2, hs, if_true, hp, hx, if_neg (show ¬ (-1 : Int) ≥ 0 by omega), if_pos a1, a2, a3, Option.bind_some]
        exact ev rfl
    · have b0 : ¬ (b : Int) = -1 := by omega
      have b1 : (b : Int) ≥ 0 := by omega
      have b2 : (0 : Int) ≤ (b : Int) := by omega
      have b3 : (b : Int) < ((60 : Nat) : Int) := by omega
      refine ⟨(((s.set a (⟨(rd_T97 s (a : Int)).f0, (rd_T97 s (a : Int)).f1, (b : Int), (rd_T97 s (a : Int)).f3⟩ : S97)).set b (⟨(rd_T97 (s.set a (⟨(rd_T97 s (a : Int)).f0, (rd_T97 s (a : Int)).f1, (b : Int), (rd_T97 s (a : Int)).f3⟩ : S97)) (b : Int)).f0, (a : Int), (rd_T97 (s.set a (⟨(rd_T97 s (a : Int)).f0, (rd_T97 s (a : Int)).f1, (b : Int), (rd_T97 s (a : Int)).f3⟩ : S97)) (b : Int)).f2, (rd_T97 (s.set a (⟨(rd_T97 s (a : Int)).f0, (rd_T97 s (a : Int)).f1, (b : Int), (rd_T97 s (a : Int)).f3⟩ : S97)) (b : Int)).f3⟩ : S97)).set n (⟨0, -1, r, false⟩ : S97), p, q, (n : Int), wrap64 (t - 1), (rd_T97 s (n : Int)).f0), by simp [hs], ?_, ?_⟩
      · refine bnd c1 (bnd q1 ?_)
        simp only [if_true, l01In_eq, Option.bind_some, g1, g4, and_self, decide_true, hs, g2, hu, Bool.not_true]
        refine sh 1 ?_
        simp only [spec_RemoveAt.j0, Bool.false_eq_true, if_false, g1, g2, hs, if_true, hp, hx, a0, a2, a3, b0, b2, b3, Option.bind_some]
        exact ev rfl
      · simp only [c2, Option.bind_some]
        refine bnd q2 ?_
        simp only [if_true, in_eq, Option.bind_some, g1, g4, and_self, decide_true, hs, g2, hu, Bool.not_true]
        refine sh 1 ?_
        simp only [impl_RemoveAt.j0, Bool.false_eq_true, if_false, g1, g2, hs, if_true, hp, hx, if_pos a1, a2, a3, if_pos b1, b2, b3, Option.bind_some]
        exact ev rfl
theorem PushBack_key (s : List S97) (p q r t x : Int) (hl : s.length ≤ 1048576) : ∃ R : List S97 × Int × Int × Int × Int × Int, R.1.length = s.length ∧ Ev (fun k => spec_PushBack.f k s p q r t x) R ∧ Ev (fun k => impl_PushBack.f k s p q r t x) R := by
  classical
  have c1 := l02Copy_ev s p q r t hl
  have c2 := ownQueue_eq s p q r t hl
  unfold spec_PushBack.f impl_PushBack.f
  have bad1 : Ev (fun k => spec_PushBack.j0 k x true s p q r t s p q r t) (s, p, q, r, t, (-1 : Int)) := by
    refine sh 1 ?_; simp only [spec_PushBack.j0, if_true]; exact ev rfl
  have bad2 : Ev (fun k => impl_PushBack.j0 k x true s p q r t s p q r t) (s, p, q, r, t, (-1 : Int)) := by
    refine sh 1 ?_; simp only [impl_PushBack.j0, if_true]; exact ev rfl
  by_cases h : QOk s p q r t
  · have q1 := spec_QueueOk_ev s p q r t true (by simp [h])
    have q2 := impl_QueueOk_ev s p q r t true (by simp [h])
    obtain ⟨hs, U, F, u1, u2, u3, u4, u5, u6, u7⟩ := id h
    cases F with
    | nil =>
      have hr : r = -1 := u2
      subst hr
      refine ⟨(s, p, q, -1, t, -1), by rfl, ?_, ?_⟩
      · refine bnd c1 (bnd q1 ?_)
        simp only [if_true]; exact bad1
      · simp only [c2, Option.bind_some]
        refine bnd q2 ?_
        simp only [if_true, if_pos (show (-1 : Int) < 0 by omega)]; exact bad2
    | cons n F =>
      obtain ⟨rfl, hn, _⟩ := u2
      have n0 : ¬ (n : Int) = -1 := by omega
      have n1 : ¬ (n : Int) < 0 := by omega
      have n2 : (0 : Int) ≤ (n : Int) := by omega
      have n3 : (n : Int) < ((60 : Nat) : Int) := by omega
      by_cases hi : 1 ≤ x ∧ x ≤ 1000000000
      · have p1 := spec_PlaceOf_yes s p q (n : Int) t x h
        have p2 := impl_PlaceOf_yes s p q (n : Int) t x h
        by_cases hp : plI s x ≥ 0
        · refine ⟨(s, p, q, (n : Int), t, -1), by rfl, ?_, ?_⟩
          · refine bnd c1 (bnd q1 ?_)
            simp only [if_true, n0, if_false, l01In_eq, Option.bind_some, decide_eq_true hi]
            refine bnd p1 ?_
            simp only [decide_eq_true hp]; exact bad1
          · simp only [c2, Option.bind_some]
            refine bnd q2 ?_
            simp only [if_true, n1, if_false, isId_eq, Option.bind_some, decide_eq_true hi]
            refine bnd p2 ?_
            simp only [decide_eq_true hp]; exact bad2
        · rcases last_ok U (-1) with hq | ⟨m, hm, hq⟩
          · rw [hq] at u7
            subst u7
            refine ⟨(s.set n (⟨x, -1, -1, true⟩ : S97), (n : Int), (n : Int), (rd_T97 s (n : Int)).f2, wrap64 (t + 1), (n : Int)), by simp, ?_, ?_⟩
            · refine bnd c1 (bnd q1 ?_)
              simp only [if_true, n0, if_false, l01In_eq, Option.bind_some, decide_eq_true hi]
              refine bnd p1 ?_
              refine sh 1 ?_
              simp only [decide_eq_false hp, spec_PushBack.j0, Bool.false_eq_true, if_false, n2, n3, hs, if_true, Option.bind_some]
              exact ev rfl
            · simp only [c2, Option.bind_some]
              refine bnd q2 ?_
              simp only [if_true, n1, if_false, isId_eq, Option.bind_some, decide_eq_true hi]
              refine bnd p2 ?_
              refine sh 1 ?_
              simp only [decide_eq_false hp, impl_PushBack.j0, Bool.false_eq_true, if_false, n2, n3, hs, if_true, Option.bind_some, if_neg (show ¬ (-1 : Int) ≥ 0 by omega)]
              exact ev rfl
          · rw [hq] at u7
            subst u7
            have hm60 := chain_lt _ _ u1 m hm
            have m0 : ¬ (m : Int) = -1 := by omega
            have m1 : (m : Int) ≥ 0 := by omega
            have m2 : (0 : Int) ≤ (m : Int) := by omega
            have m3 : (m : Int) < ((60 : Nat) : Int) := by omega
            refine ⟨((s.set n (⟨x, (m : Int), -1, true⟩ : S97)).set m (⟨(rd_T97 (s.set n (⟨x, (m : Int), -1, true⟩ : S97)) (m : Int)).f0, (rd_T97 (s.set n (⟨x, (m : Int), -1, true⟩ : S97)) (m : Int)).f1, (n : Int), (rd_T97 (s.set n (⟨x, (m : Int), -1, true⟩ : S97)) (m : Int)).f3⟩ : S97), p, (n : Int), (rd_T97 s (n : Int)).f2, wrap64 (t + 1), (n : Int)), by simp, ?_, ?_⟩
            · refine bnd c1 (bnd q1 ?_)
              simp only [if_true, n0, if_false, l01In_eq, Option.bind_some, decide_eq_true hi]
              refine bnd p1 ?_
              refine sh 1 ?_
              simp only [decide_eq_false hp, spec_PushBack.j0, Bool.false_eq_true, if_false, n2, n3, hs, if_true, Option.bind_some, m0, m2, m3]
              exact ev rfl
            · simp only [c2, Option.bind_some]
              refine bnd q2 ?_
              simp only [if_true, n1, if_false, isId_eq, Option.bind_some, decide_eq_true hi]
              refine bnd p2 ?_
              refine sh 1 ?_
              simp only [decide_eq_false hp, impl_PushBack.j0, Bool.false_eq_true, if_false, n2, n3, hs, if_true, Option.bind_some, if_pos m1, m2, m3]
              exact ev rfl
      · refine ⟨(s, p, q, (n : Int), t, -1), by rfl, ?_, ?_⟩
        · refine bnd c1 (bnd q1 ?_)
          simp only [if_true, n0, if_false, l01In_eq, Option.bind_some, decide_eq_false hi, Bool.false_eq_true]; exact bad1
        · simp only [c2, Option.bind_some]
          refine bnd q2 ?_
          simp only [if_true, n1, if_false, isId_eq, Option.bind_some, decide_eq_false hi, Bool.false_eq_true]; exact bad2
  · have q1 := spec_QueueOk_ev s p q r t false (by simp [h])
    have q2 := impl_QueueOk_ev s p q r t false (by simp [h])
    refine ⟨(s, p, q, r, t, -1), by rfl, ?_, ?_⟩
    · refine bnd c1 (bnd q1 ?_)
      simp only [Bool.false_eq_true, if_false]; exact bad1
    · simp only [c2, Option.bind_some]
      refine bnd q2 ?_
      simp only [Bool.false_eq_true, if_false]; exact bad2

def cvSlot (x : S100) : S97 := ⟨x.f0, x.f1, x.f2, x.f3⟩
theorem rdA_Slot {l : List S100} {n : Nat} (h : n < l.length) : rd_T100 l (n : Int) = l[n] := by unfold rd_T100; rw [Int.toNat_natCast]; exact getD_get _ h
theorem toSlotS_loop (l : List S100) (hl : l.length ≤ 9223372036854775807) : ∀ n, n ≤ l.length → ∀ acc : List S97, acc.length = l.length →
    Ev (fun k => laws_toSlotS.l0 k l acc (n : Int)) (acc.take n ++ (l.drop n).map cvSlot) := by
  refine down ?_ ?_
  · intro acc ha
    refine sh 1 ?_
    simp only [laws_toSlotS.l0, Int.lt_irrefl, if_false]
    exact ev (by simp [← ha])
  · intro n hn ih acc ha
    refine sh 1 ?_
    simp only [laws_toSlotS.l0, laws_toSlot.f, lt_cast hn, ha, Int.natCast_nonneg, if_true, wsucc hn hl, Int.toNat_natCast, rdA_Slot hn, Option.bind_some]
    refine eqv (ih (acc.set n (cvSlot l[n])) (by simp [ha])) ?_
    rw [take_set (by omega), drop_cons hn, List.map_cons, List.append_assoc]; rfl
theorem toSlotS_ev (l : List S100) (hl : l.length ≤ 1048576) : Ev (fun k => laws_toSlotS.f k l) (l.map cvSlot) := by
  unfold laws_toSlotS.f
  simp only [Int.natCast_nonneg, if_true, Int.toNat_natCast]
  refine ite (fun _ => ?_) (fun h => absurd (show l.length ≤ 1099511627776 by omega) (by omega))
  exact eqv (toSlotS_loop l (by omega) 0 (Nat.zero_le _) (List.replicate l.length z97) (by simp)) (by simp)

def mkSlot (v : Int) : S97 := ⟨v, (v + 1), (v + 2), (decide (Int.tmod (v + 3) 3 = 0))⟩
theorem rds_Slot {l : List S97} {n : Nat} (h : n < l.length) (x : S97) : rd_T97 (l.set n x) (n : Int) = x := by rw [rdB_Slot (by simpa using h)]; simp
theorem markSlotS_loop (L : Nat) (hL : L ≤ 1099511627776) : ∀ n, n ≤ L → ∀ (acc : List S97) (v : Int), acc.length = L → 0 ≤ v → v + 4 * (L - n : Nat) ≤ 4611686018427387904 →
    Ev (fun k => laws_markSlotS.l0 k acc v (n : Int)) (v + 4 * (L - n : Nat), acc.take n ++ mkG mkSlot 4 v (L - n)) := by
  refine down ?_ ?_
  · intro acc v ha h0 hv
    refine sh 1 ?_
    simp only [laws_markSlotS.l0, ha, Int.lt_irrefl, if_false]
    exact ev (by simp [mkG, ← ha])
  · intro n hn ih acc v ha h0 hv
    refine sh 1 ?_
    have hd : L - n = (L - (n + 1)) + 1 := by omega
    have e1 : wrap64 (v + 1) = v + 1 := wid (by omega) (by omega)
    have e2 : wrap64 (v + 1 + 1) = v + 2 := by rw [wid (by omega) (by omega)]; omega
    have e3 : wrap64 (v + 2 + 1) = v + 3 := by rw [wid (by omega) (by omega)]; omega
    have e4 : wrap64 (v + 3 + 1) = v + 4 := by rw [wid (by omega) (by omega)]; omega
    have hn2 : n < acc.length := by omega
    simp only [laws_markSlotS.l0, ha, lt_cast hn, Int.natCast_nonneg, if_true, wsucc hn (show L ≤ 9223372036854775807 by omega), Int.toNat_natCast, Option.bind_some, rds_Slot hn2, List.set_set, e1, e2, e3, e4]
    refine eqv (ih (acc.set n (mkSlot v)) (v + 4) (by simp [ha]) (by omega) (by omega)) ?_
    rw [take_set (by omega), hd, mkG]
    simp only [List.append_assoc, List.cons_append, List.nil_append, Prod.mk.injEq, and_true]
    omega
theorem markSlotS_ev (l : List S97) (v : Int) (hl : l.length ≤ 1099511627776) (h0 : 0 ≤ v) (h1 : v ≤ 1152921504606846976) : Ev (fun k => laws_markSlotS.f k l v) (v + 4 * l.length, mkG mkSlot 4 v l.length) := by
  unfold laws_markSlotS.f
  refine eqv (markSlotS_loop l.length hl 0 (Nat.zero_le _) l v rfl h0 (by omega)) ?_
  simp

theorem heldSlotS_loop (L : Nat) (l : List S97) (hl : l.length = L) (hL : L ≤ 1099511627776) : ∀ n, n ≤ L → ∀ v : Int, 0 ≤ v → v + 4 * (L - n : Nat) ≤ 4611686018427387904 → l.drop n = mkG mkSlot 4 v (L - n) →
    Ev (fun k => laws_heldSlotS.l0 k l v (n : Int)) (v + 4 * (L - n : Nat)) := by
  refine down ?_ ?_
  · intro v h0 hv _
    refine sh 1 ?_
    have e5 : (decide (Int.tmod (v + 3) 3 = 0) != (Int.tmod (v + 3) 3 == 0)) = false := by
      rw [show (Int.tmod (v + 3) 3 == 0) = decide (Int.tmod (v + 3) 3 = 0) from rfl]; simp
    simp only [laws_heldSlotS.l0, hl, Int.lt_irrefl, if_false]
    exact ev (by simp)
  · intro n hn ih v h0 hv hd
    refine sh 1 ?_
    have hd2 : L - n = (L - (n + 1)) + 1 := by omega
    rw [hd2, mkG] at hd
    obtain ⟨hn2, hg, hdr⟩ := get_of_drop hd
    have e1 : wrap64 (v + 1) = v + 1 := wid (by omega) (by omega)
    have e2 : wrap64 (v + 1 + 1) = v + 2 := by rw [wid (by omega) (by omega)]; omega
    have e3 : wrap64 (v + 2 + 1) = v + 3 := by rw [wid (by omega) (by omega)]; omega
    have e4 : wrap64 (v + 3 + 1) = v + 4 := by rw [wid (by omega) (by omega)]; omega
    have e5 : (decide (Int.tmod (v + 3) 3 = 0) != (Int.tmod (v + 3) 3 == 0)) = false := by
      rw [show (Int.tmod (v + 3) 3 == 0) = decide (Int.tmod (v + 3) 3 = 0) from rfl]; simp
    simp only [laws_heldSlotS.l0, hl, lt_cast hn, Int.natCast_nonneg, if_true, wsucc hn (show L ≤ 9223372036854775807 by omega), rdB_Slot hn2, hg, mkSlot, e1, e2, e3, e4, e5, Bool.false_eq_true, if_false]
    refine eqv (ih (v + 4) (by omega) (by omega) hdr) ?_
    omega
theorem heldSlotS_ev (L : Nat) (v : Int) (hl : L ≤ 1099511627776) (h0 : 0 ≤ v) (h1 : v ≤ 1152921504606846976) : Ev (fun k => laws_heldSlotS.f k (mkG mkSlot 4 v L) v) (v + 4 * L) := by
  unfold laws_heldSlotS.f
  refine eqv (heldSlotS_loop L _ (mkG_length _ _ _ _) hl 0 (Nat.zero_le _) v h0 (by omega) (by simp)) ?_
  simp

theorem szSlotS_eq (l : List S100) (c : Int) (hc0 : 0 ≤ c) (hc : c ≤ 1048576) (hl : l.length ≤ maxLen) : laws_szSlotS.f l c = some (if c < (l.length : Int) then -1 else c - (l.length : Int)) := by
  unfold laws_szSlotS.f
  unfold maxLen at hl
  have e : wrap64 (c - (l.length : Int)) = c - (l.length : Int) := wid (by omega) (by omega)
  rw [e]
  split
  · rw [if_pos (by omega)]
  · rw [if_neg (by omega)]
theorem szQueue_small (s : List S100) (p q r t : Int) (hs : s.length ≤ maxLen) : ∃ x, laws_szQueue.f s p q r t 1048576 = some x ∧ (¬ x < 0 → s.length ≤ 1048576) := by
  unfold laws_szQueue.f
  simp only [szSlotS_eq s 1048576 (by omega) (by omega) hs, Option.bind_some]
  by_cases h1 : (1048576 : Int) < (s.length : Int)
  · simp only [if_pos h1, if_pos (show (-1 : Int) < 0 by omega)]
    exact ⟨_, rfl, fun e => absurd (by omega) e⟩
  · have h2 : ¬ (1048576 - (s.length : Int) < 0) := by omega
    simp only [if_neg h1, if_neg h2]
    exact ⟨_, rfl, fun e => by omega⟩
theorem toQueue_ev (s : List S100) (p q r t : Int) (hs : s.length ≤ 1048576) : Ev (fun k => laws_toQueue.f k s p q r t) (s.map cvSlot, p, q, r, t) := by
  unfold laws_toQueue.f
  exact bnd (toSlotS_ev s hs) (ev rfl)
theorem eqQueue_ev (s : List S97) (p q r t : Int) (hs : s.length ≤ 1048576) : Ev (fun k => laws_eqQueue.f k s p q r t s p q r t) true := by
  unfold laws_eqQueue.f
  refine bnd (eqSlotS_ev s (by omega)) ?_
  simp only [if_true]; exact ev rfl
theorem markQueue_ev (s : List S97) (p q r t : Int) (hs : s.length ≤ 1048576) : Ev (fun k => laws_markQueue.f k s p q r t 1) (1 + 4 * (s.length : Int), mkG mkSlot 4 1 s.length) := by
  unfold laws_markQueue.f
  exact bnd (markSlotS_ev s 1 (by omega) (by omega) (by omega)) (ev rfl)
theorem heldQueue_ev (L : Nat) (p q r t : Int) (hs : L ≤ 1048576) : Ev (fun k => laws_heldQueue.f k (mkG mkSlot 4 1 L) p q r t 1) (1 + 4 * (L : Int)) := by
  unfold laws_heldQueue.f
  refine bnd (heldSlotS_ev L 1 (by omega) (by omega) (by omega)) ?_
  exact ite (fun e => absurd e (by omega)) (fun _ => ev rfl)

theorem MoveBack_key (s : List S97) (p q r t x : Int) (hl : s.length ≤ 1048576) : ∃ R : List S97 × Int × Int × Int × Int × Bool, R.1.length ≤ 1048576 ∧ Ev (fun k => spec_MoveBack.f k s p q r t x) R ∧ Ev (fun k => impl_MoveBack.f k s p q r t x) R := by
  classical
  have c1 := l02Copy_ev s p q r t hl
  have c2 := ownQueue_eq s p q r t hl
  unfold spec_MoveBack.f impl_MoveBack.f
  by_cases h : QOk s p q r t
  · have p1 := spec_PlaceOf_yes s p q r t x h
    have p2 := impl_PlaceOf_yes s p q r t x h
    by_cases hp : plI s x < 0
    · refine ⟨(s, p, q, r, t, false), hl, bnd p1 ?_, bnd p2 ?_⟩
      · simp only [hp, if_true]
        exact bnd c1 (ev rfl)
      · simp only [hp, if_true, c2, Option.bind_some]
        exact ev rfl
    · obtain ⟨n, hn, h60, hu, _⟩ := plI_mem h hp
      obtain ⟨R, hR, r1, r2⟩ := RemoveAt_key s p q r t h n h60 hu
      obtain ⟨R2, hR2, b1, b2⟩ := PushBack_key R.1 R.2.1 R.2.2.1 R.2.2.2.1 R.2.2.2.2.1 x (by omega)
      rw [← hn] at r1 r2
      refine ⟨(R2.1, R2.2.1, R2.2.2.1, R2.2.2.2.1, R2.2.2.2.2.1, true), by show R2.1.length ≤ _; omega, bnd p1 ?_, bnd p2 ?_⟩
      · simp only [hp, if_false]
        exact bnd r1 (bnd b1 (ev rfl))
      · simp only [hp, if_false]
        exact bnd r2 (bnd b2 (ev rfl))
  · have p1 := spec_PlaceOf_no s p q r t x h
    have p2 := impl_PlaceOf_no s p q r t x h
    refine ⟨(s, p, q, r, t, false), hl, bnd p1 ?_, bnd p2 ?_⟩
    · simp only [if_pos (show (-1 : Int) < 0 by omega)]
      exact bnd c1 (ev rfl)
    · simp only [if_pos (show (-1 : Int) < 0 by omega), c2, Option.bind_some]
      exact ev rfl
theorem pure_holds : PureOf := by
  intro s p q r t x hs hp hq hr ht hx
  refine Ev.rounds (g := fun k => laws_FnExactMoveBack.f k s p q r t x) ?_
  unfold laws_FnExactMoveBack.f
  obtain ⟨z, hz, hsm⟩ := szQueue_small s p q r t hs.1
  simp only [hz, Option.bind_some]
  refine ite (fun _ => ev rfl) (fun hn => ?_)
  have hsl := hsm hn
  have ht := toQueue_ev s p q r t hsl
  have hsl2 : (s.map cvSlot).length ≤ 1048576 := by rw [List.length_map]; exact hsl
  generalize s.map cvSlot = s1 at ht hsl2
  obtain ⟨R, hR, g1, g2⟩ := MoveBack_key s1 p q r t x hsl2
  obtain ⟨a, b, c, d, e, f⟩ := R
  have hR : a.length ≤ 1048576 := hR
  have he := eqQueue_ev s1 p q r t hsl2
  have hea := eqQueue_ev a b c d e hR
  have hm := markQueue_ev s1 p q r t hsl2
  have hma := markQueue_ev a b c d e hR
  have hha := heldQueue_ev a.length b c d e hR
  refine bnd ht (bnd g1 (bnd ht (bnd g2 (bnd hea ?_))))
  simp only [if_true, bne_self_eq_false]
  refine sh 1 ?_
  simp only [laws_FnExactMoveBack.j0, Bool.false_eq_true, if_false]
  refine bnd ht (bnd he ?_)
  simp only [if_true]
  refine bnd hm ?_
  refine ite (fun e => absurd e (by omega)) (fun _ => ?_)
  refine bnd hea ?_
  simp only [if_true, bne_self_eq_false]
  refine sh 1 ?_
  simp only [laws_FnExactMoveBack.j1, Bool.false_eq_true, if_false]
  refine bnd hma (bnd hha ?_)
  refine ite (fun e => absurd e (by omega)) (fun _ => ?_)
  simp only [if_true]
  refine bnd ht (bnd g2 (bnd hea ?_))
  simp only [if_true, bne_self_eq_false]
  refine sh 1 ?_
  simp only [laws_FnExactMoveBack.j2, Bool.false_eq_true, if_false]
  refine bnd hha ?_
  refine ite (fun e => absurd e (by omega)) (fun _ => ?_)
  simp only [if_true]
  exact ev rfl

end Go.Proofs.Ytnkpjpfmjkiidaa.PFnExactMoveBack
