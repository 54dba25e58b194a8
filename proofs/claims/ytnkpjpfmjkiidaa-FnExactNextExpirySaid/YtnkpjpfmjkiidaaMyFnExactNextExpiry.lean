/- The pure statement of FnExactNextExpiry: the program's NextExpiry answers what the reference's answers, for every input, and leaves what it was given. -/
import Derived.Test.YtnkpjpfmjkiidaaPFnExactNextExpiryx0
import Derived.Test.YtnkpjpfmjkiidaaPFnExactNextExpiryx1
import Derived.Test.YtnkpjpfmjkiidaaPFnExactNextExpiryx2
import Derived.Test.YtnkpjpfmjkiidaaPFnExactNextExpiryx3
import Derived.Test.YtnkpjpfmjkiidaaPFnExactNextExpiryx4
import Derived.Test.YtnkpjpfmjkiidaaPFnExactNextExpiryx5
import Derived.Test.YtnkpjpfmjkiidaaPFnExactNextExpiryx6
import Derived.Test.YtnkpjpfmjkiidaaPFnExactNextExpiryx7
import Derived.Test.YtnkpjpfmjkiidaaPFnExactNextExpiryx8
import Derived.Test.YtnkpjpfmjkiidaaPFnExactNextExpiryx9
import Derived.Test.YtnkpjpfmjkiidaaPFnExactNextExpiryx10
import Derived.Test.YtnkpjpfmjkiidaaPFnExactNextExpiryx11
import Derived.Test.YtnkpjpfmjkiidaaPFnExactNextExpiryx12
import Derived.Test.YtnkpjpfmjkiidaaPFnExactNextExpiryx13
import Derived.Test.YtnkpjpfmjkiidaaZFnExactNextExpiry
import Derived.Test.YtnkpjpfmjkiidaaGFnExactNextExpiry
namespace Go.Proofs.Ytnkpjpfmjkiidaa.PFnExactNextExpiry
open Go.RowKit Go.Proofs.YtnkpjpfmjkiidaaW.PrintWords Go.Proofs.YtnkpjpfmjkiidaaW.PrintLast Go.Proofs.Ytnkpjpfmjkiidaa.Opn Go.Proofs.Ytnkpjpfmjkiidaa.Aid
set_option linter.unusedVariables false
set_option linter.unusedSimpArgs false

def PureOf : Prop := ∀ (l0_0 : List (S100)) (a0_1 : Int) (a0_2 : Int) (a0_3 : Int) (a0_4 : Int) (l0_5 : List (S120)) (a0_6 : Int), (l0_0.length ≤ maxLen ∧ ∀ y4 ∈ l0_0, G100 y4) → I64 a0_1 → I64 a0_2 → I64 a0_3 → I64 a0_4 → (l0_5.length ≤ maxLen ∧ ∀ y4 ∈ l0_5, G120 y4) → I64 a0_6 → ∃ k, laws_FnExactNextExpiry.f k l0_0 a0_1 a0_2 a0_3 a0_4 l0_5 a0_6 = some true
theorem rdB_Slot {l : List S97} {n : Nat} (h : n < l.length) : rd_T97 l (n : Int) = l[n] := by unfold rd_T97; rw [Int.toNat_natCast]; exact getD_get _ h
theorem eqSlot_self (x : S97) : laws_eqSlot.f x.f0 x.f1 x.f2 x.f3 x.f0 x.f1 x.f2 x.f3 = some true := by unfold laws_eqSlot.f; simp
theorem eqSlotS_loop (l : List S97) (hl : l.length ≤ 9223372036854775807) : ∀ n, n ≤ l.length → Ev (fun k => laws_eqSlotS.l0 k l l (n : Int)) true := by
  refine down ?_ ?_
  · refine sh 1 ?_
    simp only [laws_eqSlotS.l0, Int.lt_irrefl, if_false]
    exact ev rfl
  · intro n hn ih
    refine sh 1 ?_
    simp only [laws_eqSlotS.l0, lt_cast hn, Int.natCast_nonneg, if_true, wsucc hn hl, eqSlot_self, Option.bind_some]
    exact ih
theorem eqSlotS_ev (l : List S97) (hl : l.length ≤ 9223372036854775807) : Ev (fun k => laws_eqSlotS.f k l l) true := by
  unfold laws_eqSlotS.f
  simp only [if_true]
  exact eqSlotS_loop l hl 0 (Nat.zero_le _)

theorem l01In_eq (a b c : Int) : spec_l01In.f a b c = some (decide (b ≤ a ∧ a ≤ c)) := by
  unfold spec_l01In.f; split <;> simp [*]
theorem in_eq (a b c : Int) : impl_in.f a b c = some (decide (b ≤ a ∧ a ≤ c)) := by
  unfold impl_in.f; split
  · simp_all
  · next h => simp; omega

theorem l01Has_loop (l : List Int) (x : Int) (hl : l.length ≤ 9223372036854775807) : ∀ n, n ≤ l.length → Ev (fun k => spec_l01Has.l0 k l x (n : Int)) (decide (x ∈ l.drop n)) := by
  refine down ?_ ?_
  · refine sh 1 ?_
    simp only [spec_l01Has.l0, Int.lt_irrefl, if_false]
    exact ev (by simp)
  · intro n hn ih
    refine sh 1 ?_
    simp only [spec_l01Has.l0, lt_cast hn, Int.natCast_nonneg, if_true, wsucc hn hl, rd_get hn]
    rw [drop_cons hn]
    refine ite (fun h => ev ?_) (fun h => eqv ih ?_)
    · exact dT (by rw [← h]; exact List.mem_cons_self)
    · exact decide_eq_decide.mpr ⟨fun hm => List.mem_cons_of_mem _ hm, fun hm => (List.mem_cons.mp hm).resolve_left (fun e => h e.symm)⟩
theorem l01Has_ev (l : List Int) (x : Int) (hl : l.length ≤ 9223372036854775807) : Ev (fun k => spec_l01Has.f k l x) (decide (x ∈ l)) := by
  unfold spec_l01Has.f
  exact eqv (l01Has_loop l x hl 0 (Nat.zero_le _)) (by simp)

theorem index_loop (l : List Int) (x : Int) (hl : l.length ≤ 9223372036854775807) : ∀ n, n ≤ l.length → Ev (fun k => slices_Index_int_int.l0 k l x (l.length : Int) (n : Int)) (if x ∈ l.drop n then ((n + (l.drop n).idxOf x : Nat) : Int) else -1) := by
  refine down ?_ ?_
  · refine sh 1 ?_
    simp only [slices_Index_int_int.l0, Int.lt_irrefl, if_false]
    exact ev (by simp)
  · intro n hn ih
    refine sh 1 ?_
    simp only [slices_Index_int_int.l0, lt_cast hn, Int.natCast_nonneg, if_true, wsucc hn hl, rd_get hn]
    rw [drop_cons hn]
    refine ite (fun h => ev ?_) (fun h => eqv ih ?_)
    · rw [← h, if_pos List.mem_cons_self, List.idxOf_cons_self]; simp
    · have h2 : ¬ l[n] = x := fun e => h e.symm
      by_cases hm : x ∈ l.drop (n + 1)
      · rw [if_pos hm, if_pos (List.mem_cons_of_mem _ hm), List.idxOf_cons, show (l[n] == x) = false from beq_eq_false_iff_ne.mpr h2, cond_false]; omega
      · rw [if_neg hm, if_neg (fun hc => hm ((List.mem_cons.mp hc).resolve_left h))]
theorem index_ev (l : List Int) (x : Int) (hl : l.length ≤ 9223372036854775807) : Ev (fun k => slices_Index_int_int.f k l x) (if x ∈ l then (l.idxOf x : Int) else -1) := by
  unfold slices_Index_int_int.f
  exact eqv (index_loop l x hl 0 (Nat.zero_le _)) (by simp)
theorem contains_ev (l : List Int) (x : Int) (hl : l.length ≤ 9223372036854775807) : Ev (fun k => slices_Contains_int_int.f k l x) (decide (x ∈ l)) := by
  unfold slices_Contains_int_int.f
  refine bnd (index_ev l x hl) (ev ?_)
  by_cases h : x ∈ l
  · simp only [h, if_true, decide_true]; exact decide_eq_true (by omega)
  · simp only [h, if_false, decide_false]; rfl

/-- The places from a on, each leading to the next, down to -1. -/
def Chain (s : List S97) : Int → List Nat → Prop
  | a, [] => a = -1
  | a, n :: l => a = (n : Int) ∧ n < 60 ∧ Chain s (rd_T97 s (n : Int)).f2 l
theorem chain_fn {s : List S97} : ∀ (l m : List Nat) (a : Int), Chain s a l → Chain s a m → l = m
  | [], [], _, _, _ => rfl
  | [], n :: m, a, h1, h2 => by have h3 : a = -1 := h1; have := h2.1; omega
  | n :: l, [], a, h1, h2 => by have h3 : a = -1 := h2; have := h1.1; omega
  | n :: l, k :: m, a, h1, h2 => by
    obtain rfl : n = k := by have := h1.1; have := h2.1; omega
    rw [chain_fn l m _ h1.2.2 h2.2.2]
theorem chain_mid {s : List S97} : ∀ (l1 : List Nat) (x : Nat) (l2 : List Nat) (a : Int), Chain s a (l1 ++ x :: l2) → Chain s (x : Int) (x :: l2)
  | [], x, l2, a, h => ⟨rfl, h.2⟩
  | n :: l1, x, l2, a, h => chain_mid l1 x l2 _ h.2.2
theorem chain_nodup {s : List S97} : ∀ (l : List Nat) (a : Int), Chain s a l → l.Nodup
  | [], _, _ => List.nodup_nil
  | n :: l, a, h => by
    refine List.nodup_cons.2 ⟨fun hm => ?_, chain_nodup l _ h.2.2⟩
    obtain ⟨l1, l2, rfl⟩ := List.append_of_mem hm
    have h1 := chain_mid l1 n l2 _ h.2.2
    have h2 : Chain s (n : Int) (n :: (l1 ++ n :: l2)) := ⟨rfl, h.2⟩
    have h3 := congrArg List.length (chain_fn _ _ _ h1 h2)
    simp at h3
    omega
theorem chain_lt {s : List S97} : ∀ (l : List Nat) (a : Int), Chain s a l → ∀ x ∈ l, x < 60
  | [], _, _, _, hx => by simp at hx
  | n :: l, a, h, x, hx => by
    rcases List.mem_cons.1 hx with rfl | hx
    · exact h.2.1
    · exact chain_lt l _ h.2.2 x hx
theorem chain_end {s : List S97} {l : List Nat} (h : Chain s (-1) l) : l = [] := chain_fn _ _ _ h (show Chain s (-1) [] from rfl)
theorem chain_at {s : List S97} {l : List Nat} {n : Nat} (h : Chain s (n : Int) l) : ∃ m, l = n :: m ∧ n < 60 ∧ Chain s (rd_T97 s (n : Int)).f2 m := by
  cases l with
  | nil => have h3 : (n : Int) = -1 := h; omega
  | cons k m =>
    obtain rfl : n = k := by have := h.1; omega
    exact ⟨m, rfl, h.2⟩
theorem chain_no {s : List S97} {l : List Nat} {a : Int} (h1 : a ≠ -1) (h2 : ¬ (0 ≤ a ∧ a ≤ 59)) : ¬ Chain s a l := by
  cases l with
  | nil => exact h1
  | cons k m => intro h; have := h.1; have := h.2.1; omega
def okU (s : List S97) : Int → List Int → List Nat → Prop
  | _, _, [] => True
  | b, ids, n :: l => (rd_T97 s (n : Int)).f3 = true ∧ (rd_T97 s (n : Int)).f1 = b ∧ (1 ≤ (rd_T97 s (n : Int)).f0 ∧ (rd_T97 s (n : Int)).f0 ≤ 1000000000) ∧ (rd_T97 s (n : Int)).f0 ∉ ids ∧ okU s (n : Int) (ids ++ [(rd_T97 s (n : Int)).f0]) l
def okF (s : List S97) : List Nat → Prop
  | [] => True
  | n :: l => (rd_T97 s (n : Int)).f3 = false ∧ (rd_T97 s (n : Int)).f0 = 0 ∧ (rd_T97 s (n : Int)).f1 = -1 ∧ okF s l
def lastOf : Int → List Nat → Int
  | b, [] => b
  | _, n :: l => lastOf (n : Int) l
def QOk (s : List S97) (first last free count : Int) : Prop :=
  s.length = 60 ∧ ∃ U F, Chain s first U ∧ Chain s free F ∧ okU s (-1) [] U ∧ okF s F ∧ (U.length : Int) = count ∧ U.length + F.length = 60 ∧ last = lastOf (-1) U
theorem isId_eq (a : Int) : impl_isId.f a = some (decide (1 ≤ a ∧ a ≤ 1000000000)) := by unfold impl_isId.f; simp only [in_eq, Option.bind_some]
theorem walk_yes (s : List S97) (hs : s.length = 60) (p q r t : Int) : ∀ (l : List Nat) (a : Int) (acc : List Int), Chain s a l → acc.length + l.length ≤ 60 → Ev (fun k => impl_Queue_walk.l0 k acc a s p q r t) (acc ++ l.map (fun n : Nat => (n : Int)), true) := by
  intro l
  induction l with
  | nil =>
    intro a acc h _
    have h3 : a = -1 := h
    refine sh 1 ?_
    simp only [impl_Queue_walk.l0, h3, if_true]
    exact ev (by simp)
  | cons n l ih =>
    intro a acc h hl
    obtain ⟨rfl, hn, h2⟩ := h
    refine sh 1 ?_
    simp only [List.length_cons] at hl
    simp only [impl_Queue_walk.l0, hs, if_neg (show ¬ (n : Int) = -1 by omega), if_neg (show ¬ (n : Int) < 0 by omega), if_neg (show ¬ (n : Int) ≥ ((60 : Nat) : Int) by omega), if_neg (show ¬ (acc.length : Int) = ((60 : Nat) : Int) by omega), if_pos (show acc.length < 17592186044416 by omega), if_pos (show 0 ≤ (n : Int) by omega), if_pos (show (n : Int) < ((60 : Nat) : Int) by omega)]
    exact eqv (ih _ (acc ++ [(n : Int)]) h2 (by simp; omega)) (by simp)
theorem walk_no (s : List S97) (hs : s.length = 60) (p q r t : Int) : ∀ (d : Nat) (a : Int) (acc : List Int), acc.length + d = 60 → (∀ l, Chain s a l → d < l.length) → Ev (fun k => impl_Queue_walk.l0 k acc a s p q r t) ([], false) := by
  intro d
  induction d with
  | zero =>
    intro a acc ha h
    have h1 : ¬ a = -1 := fun e => by have := h [] e; simp at this
    refine sh 1 ?_
    simp only [impl_Queue_walk.l0, hs, if_neg h1, if_pos (show (acc.length : Int) = ((60 : Nat) : Int) by omega)]
    exact ite (fun _ => ev rfl) (fun _ => ite (fun _ => ev rfl) (fun _ => ev rfl))
  | succ d ih =>
    intro a acc ha h
    have h1 : ¬ a = -1 := fun e => by have := h [] e; simp at this
    refine sh 1 ?_
    simp only [impl_Queue_walk.l0, hs, if_neg h1, if_neg (show ¬ (acc.length : Int) = ((60 : Nat) : Int) by omega), if_pos (show acc.length < 17592186044416 by omega)]
    refine ite (fun _ => ev rfl) (fun h2 => ite (fun _ => ev rfl) (fun h3 => ?_))
    simp only [if_pos (show 0 ≤ a by omega), if_pos (show a < ((60 : Nat) : Int) by omega)]
    refine ih _ (acc ++ [a]) (by simp; omega) (fun l hc => ?_)
    obtain ⟨n, rfl⟩ : ∃ n : Nat, a = n := ⟨a.toNat, by omega⟩
    have := h (n :: l) ⟨rfl, by omega, hc⟩
    simpa using this
theorem rd_map {U : List Nat} {n : Nat} (h : n < U.length) : rd (U.map (fun n : Nat => (n : Int))) (n : Int) = (U[n] : Nat) := by
  rw [rd_get (by simpa using h)]; simp
theorem impl_F_loop (s : List S97) (hs : s.length = 60) (p q r t b : Int) (F : List Nat) (hF : ∀ x ∈ F, x < 60) (hl : F.length ≤ 60) : ∀ n, n ≤ F.length → ∀ w : Bool, (w = true ↔ okF s (F.drop n) ∧ q = b) → Ev (fun k => impl_QueueOk.l1 k b (F.map (fun n : Nat => (n : Int))) (F.length : Int) (n : Int) s p q r t) w := by
  refine down ?_ ?_
  · intro w hw
    refine sh 1 ?_
    simp only [impl_QueueOk.l1, Int.lt_irrefl, if_false]
    refine ev ?_
    rw [Bool.eq_iff_iff, hw]
    simp [okF]
  · intro n hn ih w hw
    have hx : F[n] < 60 := hF _ (List.getElem_mem hn)
    rw [drop_cons hn] at hw
    simp only [okF] at hw
    refine sh 1 ?_
    simp only [impl_QueueOk.l1, List.length_map, hs, lt_cast hn, Int.natCast_nonneg, if_true, rd_map hn, if_pos (show ((F[n] : Nat) : Int) < ((60 : Nat) : Int) by omega), wsucc hn (show F.length ≤ 9223372036854775807 by omega)]
    generalize rd_T97 s ((F[n] : Nat) : Int) = z at hw ⊢
    refine ite (fun h => ev ?_) (fun h => ite (fun h2 => ite (fun h3 => ?_) (fun h3 => ev ?_)) (fun h2 => ev ?_))
    · exact (Bool.eq_false_iff.2 (fun e => by have := (hw.1 e).1.1; simp [h] at this)).symm
    · exact ih w (hw.trans ⟨fun x => ⟨x.1.2.2.2, x.2⟩, fun x => ⟨⟨by simpa using h, h2, h3, x.1⟩, x.2⟩⟩)
    · exact (Bool.eq_false_iff.2 (fun e => h3 (hw.1 e).1.2.2.1)).symm
    · exact (Bool.eq_false_iff.2 (fun e => h2 (hw.1 e).1.2.1)).symm
theorem impl_U_loop (s : List S97) (hs : s.length = 60) (p q r t : Int) (U F : List Nat) (hU : ∀ x ∈ U, x < 60) (hF : ∀ x ∈ F, x < 60) (hul : U.length ≤ 60) (hl : F.length ≤ 60) : ∀ n, n ≤ U.length → ∀ (b : Int) (ids : List Int) (w : Bool), ids.length ≤ n → (w = true ↔ okU s b ids (U.drop n) ∧ okF s F ∧ q = lastOf b (U.drop n)) →
    Ev (fun k => impl_QueueOk.l0 k (F.map (fun n : Nat => (n : Int))) b ids (U.map (fun n : Nat => (n : Int))) (U.length : Int) (n : Int) s p q r t) w := by
  refine down ?_ ?_
  · intro b ids w _ hw
    refine sh 1 ?_
    simp only [impl_QueueOk.l0, Int.lt_irrefl, if_false, List.length_map]
    exact impl_F_loop s hs p q r t b F hF hl 0 (Nat.zero_le _) w (hw.trans (by simp [okU, lastOf]))
  · intro n hn ih b ids w hids hw
    have hx : U[n] < 60 := hU _ (List.getElem_mem hn)
    rw [drop_cons hn] at hw
    simp only [okU, lastOf] at hw
    refine sh 1 ?_
    simp only [impl_QueueOk.l0, List.length_map, hs, lt_cast hn, Int.natCast_nonneg, if_true, rd_map hn, if_pos (show ((U[n] : Nat) : Int) < ((60 : Nat) : Int) by omega), wsucc hn (show U.length ≤ 9223372036854775807 by omega), isId_eq, Option.bind_some, decide_eq_true_eq]
    generalize rd_T97 s ((U[n] : Nat) : Int) = z at hw ⊢
    have no : ¬ w = true → false = w := fun h => (Bool.eq_false_iff.2 h).symm
    refine ite (fun h => ite (fun h2 => ite (fun h3 => ?_) (fun h3 => ev (no fun e => h3 (hw.1 e).1.2.1))) (fun h2 => ev (no fun e => h2 (hw.1 e).1.2.2.1))) (fun h => ev (no fun e => h (hw.1 e).1.1))
    refine bnd (contains_ev ids z.f0 (by omega)) ?_
    simp only [decide_eq_true_eq]
    refine ite (fun h4 => ev (no fun e => (hw.1 e).1.2.2.2.1 h4)) (fun h4 => ?_)
    simp only [if_pos (show ids.length < 17592186044416 by omega)]
    exact ih _ _ w (by simp; omega) (hw.trans ⟨fun x => ⟨x.1.2.2.2.2, x.2⟩, fun x => ⟨⟨h, h3, h2, h4, x.1⟩, x.2⟩⟩)
theorem impl_QueueOk_ev (s : List S97) (p q r t : Int) (w : Bool) (hw : w = true ↔ QOk s p q r t) : Ev (fun k => impl_QueueOk.f k s p q r t) w := by
  unfold impl_QueueOk.f
  have no : ¬ w = true → false = w := fun h => (Bool.eq_false_iff.2 h).symm
  refine ite (fun hs => ?_) (fun hs => ev (no fun e => hs (by have := (hw.1 e).1; omega)))
  have hs : s.length = 60 := by omega
  have look : ∀ a : Int, (∃ l, Chain s a l ∧ l.length ≤ 60 ∧ Ev (fun k => impl_Queue_walk.f k s p q r t a) (l.map (fun n : Nat => (n : Int)), true)) ∨ ((∀ l, Chain s a l → 60 < l.length) ∧ Ev (fun k => impl_Queue_walk.f k s p q r t a) ([], false)) := by
    intro a
    by_cases h : ∃ l, Chain s a l ∧ l.length ≤ 60
    · obtain ⟨l, h1, h2⟩ := h
      exact .inl ⟨l, h1, h2, eqv (walk_yes s hs p q r t l a [] h1 (by simpa using h2)) (by simp)⟩
    · have h2 : ∀ l, Chain s a l → 60 < l.length := fun l hc => by
        rcases Nat.lt_or_ge 60 l.length with h3 | h3
        · exact h3
        · exact absurd ⟨l, hc, h3⟩ h
      exact .inr ⟨h2, walk_no s hs p q r t 60 a [] (by simp) h2⟩
  have bad : ∀ (x y : List Int) , Ev (fun k => impl_QueueOk.j0 k x y true s p q r t) false := fun x y => by
    refine sh 1 ?_; simp only [impl_QueueOk.j0, if_true]; exact ev rfl
  rcases look p with ⟨U, u1, u2, u3⟩ | ⟨u1, u3⟩
  · rcases look r with ⟨F, f1, f2, f3⟩ | ⟨f1, f3⟩
    · refine bnd u3 (bnd f3 ?_)
      simp only [if_true, List.length_map]
      have hsum : wrap64 ((U.length : Int) + (F.length : Int)) = (U.length : Int) + (F.length : Int) := wid (by omega) (by omega)
      rw [hsum]
      refine ite (fun hc => ?_) (fun hc => eqv (bad _ _) (no fun e => ?_))
      · by_cases h60 : (U.length : Int) + (F.length : Int) = 60
        · rw [h60]
          refine sh 1 ?_
          simp only [impl_QueueOk.j0, bne_self_eq_false, Bool.false_eq_true, if_false, List.length_map]
          refine impl_U_loop s hs p q r t U F (chain_lt _ _ u1) (chain_lt _ _ f1) u2 f2 0 (Nat.zero_le _) (-1) [] w (Nat.le_refl _) (hw.trans ?_)
          simp only [List.drop_zero]
          constructor
          · rintro ⟨_, U', F', c1, c2, c3, c4, _, _, c7⟩
            rw [chain_fn _ _ _ c1 u1] at c3 c7; rw [chain_fn _ _ _ c2 f1] at c4
            exact ⟨c3, c4, c7⟩
          · rintro ⟨c3, c4, c7⟩
            exact ⟨hs, U, F, u1, f1, c3, c4, hc, by omega, c7⟩
        · have hb : ((U.length : Int) + (F.length : Int) != 60) = true := by simpa using h60
          rw [hb]
          refine eqv (bad _ _) (no fun e => ?_)
          obtain ⟨_, U', F', c1, c2, c3, c4, _, c6, c7⟩ := hw.1 e
          rw [chain_fn _ _ _ c1 u1, chain_fn _ _ _ c2 f1] at c6
          omega
      · obtain ⟨_, U', F', c1, c2, c3, c4, c5, c6, c7⟩ := hw.1 e
        rw [chain_fn _ _ _ c1 u1] at c5
        exact hc c5
    · refine bnd u3 (bnd f3 ?_)
      simp only [if_true, Bool.false_eq_true, if_false]
      refine eqv (bad _ _) (no fun e => ?_)
      obtain ⟨_, U', F', c1, c2, c3, c4, c5, c6, c7⟩ := hw.1 e
      have := f1 _ c2; omega
  · have u4 : ¬ w = true := fun e => by
      obtain ⟨_, U', F', c1, c2, c3, c4, c5, c6, c7⟩ := hw.1 e
      have := u1 _ c1; omega
    rcases look r with ⟨F, f1, f2, f3⟩ | ⟨f1, f3⟩
    · refine bnd u3 (bnd f3 ?_)
      simp only [Bool.false_eq_true, if_false]
      exact eqv (bad _ _) (no u4)
    · refine bnd u3 (bnd f3 ?_)
      simp only [Bool.false_eq_true, if_false]
      exact eqv (bad _ _) (no u4)
theorem seen_get {seen : List Bool} {n : Nat} : rdOf false seen (n : Int) = seen.getD n false := by unfold rdOf; rw [Int.toNat_natCast]
theorem seen_set {seen : List Bool} {n x : Nat} (h : n < seen.length) : (seen.set n true).getD x false = if n = x then true else seen.getD x false := by
  rw [List.getD_eq_getElem?_getD, List.getD_eq_getElem?_getD, List.getElem?_set]
  split
  · rename_i e; subst e; simp [h]
  · rfl
theorem seen_count {seen : List Bool} {n : Nat} (h : n < seen.length) (hf : seen.getD n false = false) : (seen.set n true).count false + 1 = seen.count false := by
  have hf2 : seen[n] = false := by rw [← getD_get false h]; exact hf
  have h1 := List.count_set (a := true) (b := false) (l := seen) (i := n) h
  have h2 : 0 < seen.count false := List.count_pos_iff.2 (by rw [← hf2]; exact List.getElem_mem h)
  rw [hf2] at h1
  simp at h1
  omega
theorem spec_F_loop (s : List S97) (hs : s.length = 60) (p q r t : Int) : ∀ (m : Nat) (seen : List Bool) (c : Nat) (a : Int) (w : Bool), seen.length = 60 → seen.count false = m → c + m = 60 → (∀ F, Chain s a F → okF s F → ∀ x ∈ F, seen.getD x false = false) → (w = true ↔ ∃ F, Chain s a F ∧ okF s F ∧ c + F.length = 60) →
    Ev (fun k => spec_QueueOk.l1 k seen (c : Int) a s p q r t) w := by
  intro m
  induction m with
  | zero =>
    intro seen c a w hl hm hc hd hw
    have no : ¬ w = true → false = w := fun h => (Bool.eq_false_iff.2 h).symm
    refine sh 2 ?_
    simp only [spec_QueueOk.l1, l01In_eq, Option.bind_some, decide_eq_true_eq]
    refine ite (fun h => ev ?_) (fun h => ?_)
    · rw [Bool.eq_iff_iff, hw, beq_iff_eq]
      exact ⟨fun e => ⟨[], h, trivial, by simp; omega⟩, fun ⟨F, h1, _, h3⟩ => by rw [h] at h1; rw [chain_end h1] at h3; simp at h3; omega⟩
    · refine ite (fun h2 => ?_) (fun h2 => ?_)
      · obtain ⟨n, rfl⟩ : ∃ n : Nat, a = n := ⟨a.toNat, by omega⟩
        have ht : seen.getD n false = true := by
          rw [← Bool.not_eq_false]; intro hf
          have := seen_count (n := n) (by omega) hf
          omega
        simp only [if_pos h2.1, if_pos (show (n : Int) < (seen.length : Int) by omega), seen_get, ht, spec_QueueOk.j5, if_true]
        refine ev (no fun e => ?_)
        obtain ⟨F, h3, h4, _⟩ := hw.1 e
        obtain ⟨F', rfl, _⟩ := chain_at h3
        rw [hd _ h3 h4 n List.mem_cons_self] at ht; cases ht
      · simp only [spec_QueueOk.j5, if_true]
        exact ev (no fun e => by obtain ⟨F, h3, _⟩ := hw.1 e; exact chain_no h h2 h3)
  | succ m ih =>
    intro seen c a w hl hm hc hd hw
    have no : ¬ w = true → false = w := fun h => (Bool.eq_false_iff.2 h).symm
    refine sh 2 ?_
    simp only [spec_QueueOk.l1, l01In_eq, Option.bind_some, decide_eq_true_eq]
    refine ite (fun h => ev ?_) (fun h => ?_)
    · rw [Bool.eq_iff_iff, hw, beq_iff_eq]
      exact ⟨fun e => ⟨[], h, trivial, by simp; omega⟩, fun ⟨F, h1, _, h3⟩ => by rw [h] at h1; rw [chain_end h1] at h3; simp at h3; omega⟩
    · refine ite (fun h2 => ?_) (fun h2 => ?_)
      · obtain ⟨n, rfl⟩ : ∃ n : Nat, a = n := ⟨a.toNat, by omega⟩
        have hw1 : wrap64 ((c : Int) + 1) = ((c + 1 : Nat) : Int) := (wid (by omega) (by omega)).trans (by omega)
        simp only [if_pos h2.1, if_pos (show (n : Int) < (seen.length : Int) by omega), seen_get, spec_QueueOk.j5, if_pos (show (n : Int) < (s.length : Int) by omega), hw1, Int.toNat_natCast]
        refine ite (fun ht => ev (no fun e => ?_)) (fun hf => ?_)
        · obtain ⟨F, h3, h4, _⟩ := hw.1 e
          obtain ⟨F', rfl, _⟩ := chain_at h3
          rw [hd _ h3 h4 n List.mem_cons_self] at ht; cases ht
        · have hf : seen.getD n false = false := by simpa using hf
          have key : ∀ (w' : Bool), w' = w → ((rd_T97 s (n : Int)).f3 = false ∧ (rd_T97 s (n : Int)).f0 = 0 ∧ (rd_T97 s (n : Int)).f1 = -1 → Ev (fun k => spec_QueueOk.l1 k (seen.set n true) ((c + 1 : Nat) : Int) (rd_T97 s (n : Int)).f2 s p q r t) w') := by
            rintro w' rfl ⟨k1, k2, k3⟩
            have hcnt := seen_count (n := n) (by omega) hf
            refine ih (seen.set n true) (c + 1) _ w' (by simpa using hl) (by omega) (by omega) ?_ (hw.trans ⟨?_, ?_⟩)
            · intro F h3 h4 x hx
              have h5 : Chain s (n : Int) (n :: F) := ⟨rfl, by omega, h3⟩
              have h6 := hd _ h5 ⟨k1, k2, k3, h4⟩ x (List.mem_cons_of_mem _ hx)
              rw [seen_set (by omega), if_neg, h6]
              rintro rfl
              exact (List.nodup_cons.1 (chain_nodup _ _ h5)).1 hx
            · rintro ⟨F, h3, h4, h5⟩
              obtain ⟨F', rfl, _, h6⟩ := chain_at h3
              exact ⟨F', h6, h4.2.2.2, by simp at h5; omega⟩
            · rintro ⟨F, h3, h4, h5⟩
              exact ⟨n :: F, ⟨rfl, by omega, h3⟩, ⟨k1, k2, k3, h4⟩, by simp; omega⟩
          have bad : ¬ ((rd_T97 s (n : Int)).f3 = false ∧ (rd_T97 s (n : Int)).f0 = 0 ∧ (rd_T97 s (n : Int)).f1 = -1) → false = w := fun hb => no fun e => by
            obtain ⟨F, h3, h4, _⟩ := hw.1 e
            obtain ⟨F', rfl, _⟩ := chain_at h3
            exact hb ⟨h4.1, h4.2.1, h4.2.2.1⟩
          refine ite (fun g => ev (bad fun x => by rw [x.1] at g; cases g)) (fun g => ite (fun g2 => ite (fun g3 => key w rfl ⟨by simpa using g, g2, g3⟩) (fun g3 => ev (bad fun x => g3 x.2.2))) (fun g2 => ev (bad fun x => g2 x.2.1)))
      · simp only [spec_QueueOk.j5, if_true]
        exact ev (no fun e => by obtain ⟨F, h3, _⟩ := hw.1 e; exact chain_no h h2 h3)
def QU (s : List S97) (last free count : Int) (b : Int) (ids : List Int) (c : Nat) (a : Int) : Prop :=
  ∃ U F, Chain s a U ∧ Chain s free F ∧ okU s b ids U ∧ okF s F ∧ (c : Int) + U.length = count ∧ c + U.length + F.length = 60 ∧ last = lastOf b U
theorem spec_U_end (s : List S97) (hs : s.length = 60) (p q r t : Int) (m : Nat) (seen : List Bool) (ids : List Int) (c : Nat) (b a : Int) (w : Bool) (hl : seen.length = 60) (hm : seen.count false = m) (hc : c + m = 60) (hd : ∀ x : Nat, seen.getD x false = true → (rd_T97 s (x : Int)).f0 ∈ ids ∧ (rd_T97 s (x : Int)).f3 = true)
    (hw : w = true ↔ QU s q r t b ids c a) (h : a = -1) : Ev (fun k => if (c : Int) = t then (spec_QueueOk.j3 (k + 1) seen (c : Int) (q != b) s p q r t) else (spec_QueueOk.j3 (k + 1) seen (c : Int) true s p q r t)) w := by
  have no : ¬ w = true → false = w := fun h => (Bool.eq_false_iff.2 h).symm
  subst h
  simp only [spec_QueueOk.j3, if_true, bne_iff_ne, ne_eq]
  refine ite (fun h => ite (fun h2 => ev (no fun e => ?_)) (fun h2 => ?_)) (fun h => ev (no fun e => ?_))
  · obtain ⟨U, F, h3, _, _, _, _, _, h9⟩ := hw.1 e
    rw [chain_end h3] at h9; exact h2 h9
  · refine spec_F_loop s hs p q r t m seen c r w hl hm hc ?_ (hw.trans ⟨?_, ?_⟩)
    · intro F h3 h4 x hx
      rw [← Bool.not_eq_true]; intro h5
      have h6 := (hd x h5).2
      have h7 : ∀ F : List Nat, okF s F → x ∈ F → (rd_T97 s (x : Int)).f3 = false := by
        intro F
        induction F with
        | nil => intro _ hx; simp at hx
        | cons y F ihF =>
          intro hk hx
          rcases List.mem_cons.1 hx with rfl | hx
          · exact hk.1
          · exact ihF hk.2.2.2 hx
      rw [h7 F h4 hx] at h6; cases h6
    · rintro ⟨U, F, h3, h4, h5, h6, h7, h8, h9⟩
      rw [chain_end h3] at h8
      exact ⟨F, h4, h6, by simpa using h8⟩
    · rintro ⟨F, h4, h6, h8⟩
      exact ⟨[], F, rfl, h4, trivial, h6, by simpa using h, by simpa using h8, by simpa [lastOf] using h2⟩
  · obtain ⟨U, F, h3, _, _, _, h7, _, _⟩ := hw.1 e
    rw [chain_end h3] at h7; exact h (by simpa using h7)
theorem spec_U_loop (s : List S97) (hs : s.length = 60) (p q r t : Int) : ∀ (m : Nat) (seen : List Bool) (ids : List Int) (c : Nat) (b a : Int) (w : Bool), seen.length = 60 → seen.count false = m → c + m = 60 → ids.length = c → (∀ x : Nat, seen.getD x false = true → (rd_T97 s (x : Int)).f0 ∈ ids ∧ (rd_T97 s (x : Int)).f3 = true) → (w = true ↔ QU s q r t b ids c a) →
    Ev (fun k => spec_QueueOk.l0 k seen ids (c : Int) b a s p q r t) w := by
  intro m
  induction m with
  | zero =>
    intro seen ids c b a w hl hm hc hi hd hw
    have no : ¬ w = true → false = w := fun h => (Bool.eq_false_iff.2 h).symm
    refine sh 2 ?_
    simp only [spec_QueueOk.l0, l01In_eq, Option.bind_some, decide_eq_true_eq]
    refine ite (fun h => spec_U_end s hs p q r t 0 seen ids c b a w hl hm hc hd hw h) (fun h => ?_)
    refine ite (fun h2 => ?_) (fun h2 => ?_)
    · obtain ⟨n, rfl⟩ : ∃ n : Nat, a = n := ⟨a.toNat, by omega⟩
      have ht : seen.getD n false = true := by
        rw [← Bool.not_eq_false]; intro hf
        have := seen_count (n := n) (by omega) hf
        omega
      simp only [if_pos h2.1, if_pos (show (n : Int) < (seen.length : Int) by omega), seen_get, ht, spec_QueueOk.j2, if_true]
      refine ev (no fun e => ?_)
      obtain ⟨U, F, h3, _, h4, _⟩ := hw.1 e
      obtain ⟨U', rfl, _⟩ := chain_at h3
      exact h4.2.2.2.1 (hd n ht).1
    · simp only [spec_QueueOk.j2, if_true]
      exact ev (no fun e => by obtain ⟨U, F, h3, _⟩ := hw.1 e; exact chain_no h h2 h3)
  | succ m ih =>
    intro seen ids c b a w hl hm hc hi hd hw
    have no : ¬ w = true → false = w := fun h => (Bool.eq_false_iff.2 h).symm
    refine sh 2 ?_
    simp only [spec_QueueOk.l0, l01In_eq, Option.bind_some, decide_eq_true_eq]
    refine ite (fun h => spec_U_end s hs p q r t (m + 1) seen ids c b a w hl hm hc hd hw h) (fun h => ?_)
    refine ite (fun h2 => ?_) (fun h2 => ?_)
    · obtain ⟨n, rfl⟩ : ∃ n : Nat, a = n := ⟨a.toNat, by omega⟩
      have hw1 : wrap64 ((c : Int) + 1) = ((c + 1 : Nat) : Int) := (wid (by omega) (by omega)).trans (by omega)
      simp only [if_pos h2.1, if_pos (show (n : Int) < (seen.length : Int) by omega), seen_get, spec_QueueOk.j2, if_pos (show (n : Int) < (s.length : Int) by omega), hw1, Int.toNat_natCast, l01In_eq, Option.bind_some, decide_eq_true_eq]
      have bad : ∀ P : Prop, ((rd_T97 s (n : Int)).f3 = true ∧ (rd_T97 s (n : Int)).f1 = b ∧ (1 ≤ (rd_T97 s (n : Int)).f0 ∧ (rd_T97 s (n : Int)).f0 ≤ 1000000000) ∧ (rd_T97 s (n : Int)).f0 ∉ ids → P) → ¬ P → false = w := fun P hP hn => no fun e => by
        obtain ⟨U, F, h3, _, h4, _⟩ := hw.1 e
        obtain ⟨U', rfl, _⟩ := chain_at h3
        exact hn (hP ⟨h4.1, h4.2.1, h4.2.2.1, h4.2.2.2.1⟩)
      refine ite (fun ht => ev (bad _ (fun x => x.2.2.2) (fun x => x (hd n ht).1))) (fun hf => ?_)
      have hf : seen.getD n false = false := by simpa using hf
      refine ite (fun g => ite (fun g2 => ite (fun g3 => ?_) (fun g3 => ev (bad _ (fun x => x.2.2.1) g3))) (fun g2 => ev (bad _ (fun x => x.2.1) g2))) (fun g => ev (bad _ (fun x => x.1) g))
      refine bnd (l01Has_ev ids _ (by omega)) ?_
      simp only [decide_eq_true_eq]
      refine ite (fun g4 => ev (bad _ (fun x => x.2.2.2) (fun x => x g4))) (fun g4 => ?_)
      simp only [if_pos (show ids.length < 17592186044416 by omega)]
      have hcnt := seen_count (n := n) (by omega) hf
      refine ih (seen.set n true) (ids ++ [(rd_T97 s (n : Int)).f0]) (c + 1) (n : Int) _ w (by simpa using hl) (by omega) (by omega) (by simp [hi]) ?_ (hw.trans ⟨?_, ?_⟩)
      · intro x hx
        rw [seen_set (by omega)] at hx
        split at hx
        · rename_i e; subst e; exact ⟨by simp, g⟩
        · have := hd x hx; exact ⟨List.mem_append_left _ this.1, this.2⟩
      · rintro ⟨U, F, h3, h4, h5, h6, h7, h8, h9⟩
        obtain ⟨U', rfl, _, h10⟩ := chain_at h3
        exact ⟨U', F, h10, h4, h5.2.2.2.2, h6, by simp at h7; omega, by simp at h8; omega, h9⟩
      · rintro ⟨U, F, h3, h4, h5, h6, h7, h8, h9⟩
        exact ⟨n :: U, F, ⟨rfl, by omega, h3⟩, h4, ⟨g, g2, g3, g4, h5⟩, h6, by simp; omega, by simp; omega, h9⟩
    · simp only [spec_QueueOk.j2, if_true]
      exact ev (no fun e => by obtain ⟨U, F, h3, _⟩ := hw.1 e; exact chain_no h h2 h3)
theorem spec_QueueOk_ev (s : List S97) (p q r t : Int) (w : Bool) (hw : w = true ↔ QOk s p q r t) : Ev (fun k => spec_QueueOk.f k s p q r t) w := by
  unfold spec_QueueOk.f
  have no : ¬ w = true → false = w := fun h => (Bool.eq_false_iff.2 h).symm
  refine ite (fun hs => ?_) (fun hs => ?_)
  · have hs : s.length = 60 := by omega
    simp only [l01In_eq, Option.bind_some]
    refine sh 1 ?_
    by_cases h : 0 ≤ t ∧ t ≤ 60
    · simp only [spec_QueueOk.j0, decide_eq_true h, Bool.not_true, Bool.false_eq_true, if_false, if_pos (show 60 ≤ 281474976710656 by omega)]
      refine spec_U_loop s hs p q r t 60 (List.replicate 60 false) [] 0 (-1) p w (by simp) (by simp) rfl rfl ?_ (hw.trans ?_)
      · intro x hx
        rw [List.getD_eq_getElem?_getD, List.getElem?_replicate] at hx
        split at hx <;> simp at hx
      · constructor
        · rintro ⟨_, U, F, c1, c2, c3, c4, c5, c6, c7⟩
          exact ⟨U, F, c1, c2, c3, c4, by omega, by omega, c7⟩
        · rintro ⟨U, F, c1, c2, c3, c4, c5, c6, c7⟩
          exact ⟨hs, U, F, c1, c2, c3, c4, by omega, by omega, c7⟩
    · simp only [spec_QueueOk.j0, decide_eq_false h, Bool.not_false, if_true]
      refine ev (no fun e => ?_)
      obtain ⟨_, U, F, c1, c2, c3, c4, c5, c6, c7⟩ := hw.1 e
      omega
  · refine sh 1 ?_
    simp only [spec_QueueOk.j0, if_true]
    exact ev (no fun e => hs (by have := (hw.1 e).1; omega))

def idsOf (s : List S97) (U : List Nat) : List Int := U.map (fun n : Nat => (rd_T97 s (n : Int)).f0)
theorem spec_List_loop (s : List S97) (hs : s.length = 60) (p q r t : Int) : ∀ (U : List Nat) (a : Int) (acc : List Int), Chain s a U → acc.length + U.length ≤ 60 → Ev (fun k => spec_ListQueue.l0 k acc a s p q r t) (acc ++ idsOf s U) := by
  intro U
  induction U with
  | nil =>
    intro a acc h _
    have h3 : a = -1 := h
    refine sh 1 ?_
    simp only [spec_ListQueue.l0, h3, if_true]
    exact ev (by simp [idsOf])
  | cons n U ih =>
    intro a acc h hl
    obtain ⟨rfl, hn, h2⟩ := h
    refine sh 1 ?_
    simp only [List.length_cons] at hl
    simp only [spec_ListQueue.l0, hs, if_neg (show ¬ (n : Int) = -1 by omega), if_pos (show acc.length < 17592186044416 by omega), if_pos (show 0 ≤ (n : Int) by omega), if_pos (show (n : Int) < ((60 : Nat) : Int) by omega)]
    exact eqv (ih _ (acc ++ [_]) h2 (by simp; omega)) (by simp [idsOf])
theorem impl_List_loop (s : List S97) (hs : s.length = 60) (p q r t : Int) (U : List Nat) (hU : ∀ x ∈ U, x < 60) (hl : U.length ≤ 60) : ∀ n, n ≤ U.length → ∀ acc : List Int, acc.length ≤ n → Ev (fun k => impl_ListQueue.l0 k acc (U.map (fun n : Nat => (n : Int))) (U.length : Int) (n : Int) s p q r t) (acc ++ idsOf s (U.drop n)) := by
  refine down ?_ ?_
  · intro acc _
    refine sh 1 ?_
    simp only [impl_ListQueue.l0, Int.lt_irrefl, if_false]
    exact ev (by simp [idsOf])
  · intro n hn ih acc ha
    have hx : U[n] < 60 := hU _ (List.getElem_mem hn)
    refine sh 1 ?_
    simp only [impl_ListQueue.l0, List.length_map, hs, lt_cast hn, Int.natCast_nonneg, if_true, rd_map hn, if_pos (show ((U[n] : Nat) : Int) < ((60 : Nat) : Int) by omega), wsucc hn (show U.length ≤ 9223372036854775807 by omega), if_pos (show acc.length < 17592186044416 by omega)]
    refine eqv (ih (acc ++ [_]) (by simp; omega)) ?_
    rw [drop_cons hn]; simp only [idsOf, List.map_cons, List.append_assoc, List.singleton_append]
theorem spec_ListQueue_ev (s : List S97) (p q r t : Int) (hs : s.length = 60) (U : List Nat) (hU : Chain s p U) (hl : U.length ≤ 60) (hq : QOk s p q r t) : Ev (fun k => spec_ListQueue.f k s p q r t) (idsOf s U) := by
  unfold spec_ListQueue.f
  refine bnd (spec_QueueOk_ev s p q r t true (by simp [hq])) ?_
  simp only [if_true]
  exact eqv (spec_List_loop s hs p q r t U p [] hU (by simpa using hl)) (by simp)
theorem impl_ListQueue_ev (s : List S97) (p q r t : Int) (hs : s.length = 60) (U : List Nat) (hU : Chain s p U) (hl : U.length ≤ 60) (hq : QOk s p q r t) : Ev (fun k => impl_ListQueue.f k s p q r t) (idsOf s U) := by
  unfold impl_ListQueue.f
  refine bnd (impl_QueueOk_ev s p q r t true (by simp [hq])) ?_
  simp only [if_true]
  refine bnd (show Ev (fun k => impl_Queue_walk.f k s p q r t p) (U.map (fun n : Nat => (n : Int)), true) from ?_) ?_
  · unfold impl_Queue_walk.f
    exact eqv (walk_yes s hs p q r t U p [] hU (by simpa using hl)) (by simp)
  · simp only [List.length_map]
    exact eqv (impl_List_loop s hs p q r t U (chain_lt _ _ hU) hl 0 (Nat.zero_le _) [] (Nat.le_refl _)) (by simp)

theorem rdB_Due {l : List S86} {n : Nat} (h : n < l.length) : rd_T86 l (n : Int) = l[n] := by unfold rd_T86; rw [Int.toNat_natCast]; exact getD_get _ h
theorem eqDue_self (x : S86) : laws_eqDue.f x.f0 x.f1 x.f2 x.f0 x.f1 x.f2 = some true := by unfold laws_eqDue.f; simp
theorem eqDueS_loop (l : List S86) (hl : l.length ≤ 9223372036854775807) : ∀ n, n ≤ l.length → Ev (fun k => laws_eqDueS.l0 k l l (n : Int)) true := by
  refine down ?_ ?_
  · refine sh 1 ?_
    simp only [laws_eqDueS.l0, Int.lt_irrefl, if_false]
    exact ev rfl
  · intro n hn ih
    refine sh 1 ?_
    simp only [laws_eqDueS.l0, lt_cast hn, Int.natCast_nonneg, if_true, wsucc hn hl, eqDue_self, Option.bind_some]
    exact ih
theorem eqDueS_ev (l : List S86) (hl : l.length ≤ 9223372036854775807) : Ev (fun k => laws_eqDueS.f k l l) true := by
  unfold laws_eqDueS.f
  simp only [if_true]
  exact eqDueS_loop l hl 0 (Nat.zero_le _)

theorem spec_TickOk_eq (a : Int) : spec_TickOk.f a = some (decide (0 ≤ a ∧ a ≤ 1000000000)) := by
  unfold spec_TickOk.f; rw [l01In_eq]; rfl

theorem impl_TickOk_eq (a : Int) : impl_TickOk.f a = some (decide (0 ≤ a ∧ a ≤ 1000000000)) := by
  unfold impl_TickOk.f; rw [in_eq]; rfl

def Bef (x y : S86) : Prop := x.f0 < y.f0 ∨ (x.f0 = y.f0 ∧ x.f1 < y.f1)
theorem Before_eq (a b c d e f : Int) : spec_l03Before.f a b c d e f = some (decide (a < d ∨ (a = d ∧ b < e))) := by
  unfold spec_l03Before.f
  split
  · rename_i h; rw [decide_eq_true (Or.inl h)]
  · rename_i h
    split
    · rename_i h2; congr 1; exact decide_eq_decide.mpr ⟨fun x => .inr ⟨h2, x⟩, fun x => x.elim (fun y => absurd y h) (fun y => y.2)⟩
    · rename_i h2; rw [decide_eq_false (fun x => x.elim h (fun y => h2 y.1))]
def cmpI (a b : Int) : Int := if a < b then -1 else if a > b then 1 else 0
theorem Compare_eq (a b : Int) : cmp_Compare_int.f a b = some (cmpI a b) := by
  unfold cmp_Compare_int.f cmp_isNaN_int.f cmpI
  simp only [Option.bind_some, bne_self_eq_false, Bool.false_eq_true, if_false]
  split
  · rfl
  · split <;> rfl
theorem or2_ev (x y : Int) : Ev (fun k => cmp_Or_int.f k [x, y]) (if x = 0 then y else x) := by
  unfold cmp_Or_int.f
  refine sh 3 ?_
  have w1 : wrap64 (0 + 1) = 1 := wid (by omega) (by omega)
  have w2 : wrap64 (1 + 1) = 2 := wid (by omega) (by omega)
  have r0 : rd [x, y] 0 = x := rfl
  have r1 : rd [x, y] 1 = y := rfl
  have l2 : (([x, y] : List Int).length : Int) = 2 := rfl
  simp only [cmp_Or_int.l0, l2, w1, w2, r0, r1, if_pos (show (0 : Int) < 2 by omega), if_pos (show (1 : Int) < 2 by omega), if_neg (show ¬ (2 : Int) < 2 by omega), if_pos (show (0 : Int) ≤ 0 by omega), if_pos (show (0 : Int) ≤ 1 by omega)]
  refine ite (fun h => ite (fun h2 => ev ?_) (fun h2 => ev ?_)) (fun h => ev ?_)
  · rw [if_pos h, h2]
  · rw [if_pos h]
  · rw [if_neg h]
theorem Due_before_ev (a b c d e f : Int) : Ev (fun k => impl_Due_before.f k a b c d e f) (decide (a < d ∨ (a = d ∧ b < e))) := by
  unfold impl_Due_before.f
  refine bnd (show Ev (fun k => impl_Due_compare.f k a b c d e f) (if cmpI a d = 0 then cmpI b e else cmpI a d) from ?_) (ev ?_)
  · unfold impl_Due_compare.f
    simp only [Compare_eq, Option.bind_some]
    exact bnd (or2_ev _ _) (ev rfl)
  · refine decide_eq_decide.mpr ?_
    unfold cmpI
    repeat' (first | omega | split)
def gapH (h : List S86) (i j : Nat) : Prop := (rd_T86 h (j : Int)).f2 ≠ (rd_T86 h (i : Int)).f2 ∧ (rd_T86 h (j : Int)).f1 ≠ (rd_T86 h (i : Int)).f1
def goodH (h : List S86) (q : Int) (i : Nat) : Prop :=
  (0 ≤ (rd_T86 h (i : Int)).f0 ∧ (rd_T86 h (i : Int)).f0 ≤ 1000000000) ∧ (1 ≤ (rd_T86 h (i : Int)).f1 ∧ (rd_T86 h (i : Int)).f1 ≤ q) ∧ (1 ≤ (rd_T86 h (i : Int)).f2 ∧ (rd_T86 h (i : Int)).f2 ≤ 1000000000) ∧
    (0 < i → ¬ Bef (rd_T86 h (i : Int)) (rd_T86 h (((i - 1) / 2 : Nat) : Int))) ∧ ∀ j, j < i → gapH h i j
def HOk (h : List S86) (q : Int) : Prop := h.length ≤ 100 ∧ (0 ≤ q ∧ q ≤ 1000000000) ∧ ∀ i, i < h.length → goodH h q i
theorem half_eq {i : Nat} (h0 : 0 < i) (h1 : i ≤ 100) : wrap64 (Int.tdiv (wrap64 ((i : Int) - 1)) 2) = (((i - 1) / 2 : Nat) : Int) := by
  have e1 : wrap64 ((i : Int) - 1) = (i : Int) - 1 := wid (by omega) (by omega)
  rw [e1, Int.tdiv_eq_ediv_of_nonneg (by omega), wid (by omega) (by omega)]
  omega
theorem spec_gap_loop (h : List S86) (hl : h.length ≤ 100) (q : Int) (i : Nat) (hi : i < h.length) (w' : Bool) (hrest : Ev (fun k => spec_HeapOk.l0 k (wrap64 ((i : Int) + 1)) h q) w') : ∀ j, j ≤ i → ∀ w : Bool, (w = true ↔ (∀ j', j ≤ j' → j' < i → gapH h i j') ∧ w' = true) →
    Ev (fun k => spec_HeapOk.l1 k (i : Int) (j : Int) h q (rd_T86 h (i : Int)).f0 (rd_T86 h (i : Int)).f1 (rd_T86 h (i : Int)).f2) w := by
  refine down ?_ ?_
  · intro w hw
    refine sh 1 ?_
    simp only [spec_HeapOk.l1, Int.lt_irrefl, if_false]
    refine eqv hrest ?_
    rw [Bool.eq_iff_iff, hw]
    exact ⟨fun e => ⟨fun j' h1 h2 => by omega, e⟩, fun e => e.2⟩
  · intro j hj ih w hw
    have no : ¬ w = true → false = w := fun h => (Bool.eq_false_iff.2 h).symm
    refine sh 1 ?_
    simp only [spec_HeapOk.l1, lt_cast hj, Int.natCast_nonneg, if_true, if_pos (show (j : Int) < (h.length : Int) by omega), wsucc hj (show i ≤ 9223372036854775807 by omega)]
    refine ite (fun g => ev (no fun e => ((hw.1 e).1 j (Nat.le_refl _) hj).1 g)) (fun g => ite (fun g2 => ev (no fun e => ((hw.1 e).1 j (Nat.le_refl _) hj).2 g2)) (fun g2 => ?_))
    refine ih w (hw.trans ⟨fun e => ⟨fun j' h1 h2 => e.1 j' (by omega) h2, e.2⟩, fun e => ⟨fun j' h1 h2 => ?_, e.2⟩⟩)
    rcases Nat.lt_or_ge j j' with h3 | h3
    · exact e.1 j' h3 h2
    · obtain rfl : j = j' := by omega
      exact ⟨g, g2⟩
theorem impl_gap_loop (h : List S86) (hl : h.length ≤ 100) (q : Int) (i : Nat) (hi : i < h.length) (w' : Bool) (hrest : Ev (fun k => impl_HeapOk.l0 k h (h.length : Int) (wrap64 ((i : Int) + 1)) h q) w') : ∀ j, j ≤ i → ∀ w : Bool, (w = true ↔ (∀ j', j ≤ j' → j' < i → gapH h i j') ∧ w' = true) →
    Ev (fun k => impl_HeapOk.l1 k h (h.length : Int) (i : Int) (h.take i) (i : Int) (j : Int) h q (rd_T86 h (i : Int)).f0 (rd_T86 h (i : Int)).f1 (rd_T86 h (i : Int)).f2) w := by
  have htl : (h.take i).length = i := by rw [List.length_take]; omega
  refine down ?_ ?_
  · intro w hw
    refine sh 1 ?_
    simp only [impl_HeapOk.l1, Int.lt_irrefl, if_false]
    refine eqv hrest ?_
    rw [Bool.eq_iff_iff, hw]
    exact ⟨fun e => ⟨fun j' h1 h2 => by omega, e⟩, fun e => e.2⟩
  · intro j hj ih w hw
    have no : ¬ w = true → false = w := fun h => (Bool.eq_false_iff.2 h).symm
    have hrd : rd_T86 (h.take i) (j : Int) = rd_T86 h (j : Int) := by
      rw [rdB_Due (by omega), rdB_Due (show j < h.length by omega), List.getElem_take]
    refine sh 1 ?_
    simp only [impl_HeapOk.l1, lt_cast hj, Int.natCast_nonneg, if_true, htl, hrd, wsucc hj (show i ≤ 9223372036854775807 by omega)]
    refine ite (fun g => ev (no fun e => ((hw.1 e).1 j (Nat.le_refl _) hj).2 g)) (fun g => ite (fun g2 => ev (no fun e => ((hw.1 e).1 j (Nat.le_refl _) hj).1 g2)) (fun g2 => ?_))
    refine ih w (hw.trans ⟨fun e => ⟨fun j' h1 h2 => e.1 j' (by omega) h2, e.2⟩, fun e => ⟨fun j' h1 h2 => ?_, e.2⟩⟩)
    rcases Nat.lt_or_ge j j' with h3 | h3
    · exact e.1 j' h3 h2
    · obtain rfl : j = j' := by omega
      exact ⟨g2, g⟩
theorem spec_Heap_loop (h : List S86) (hl : h.length ≤ 100) (q : Int) : ∀ n, n ≤ h.length → ∀ w : Bool, (w = true ↔ ∀ i, n ≤ i → i < h.length → goodH h q i) → Ev (fun k => spec_HeapOk.l0 k (n : Int) h q) w := by
  refine down ?_ ?_
  · intro w hw
    refine sh 1 ?_
    simp only [spec_HeapOk.l0, Int.lt_irrefl, if_false]
    refine ev ?_
    rw [Bool.eq_iff_iff, hw]
    exact ⟨fun _ i h1 h2 => by omega, fun _ => rfl⟩
  · intro n hn ih w hw
    classical
    have hr := ih (decide (∀ i, n + 1 ≤ i → i < h.length → goodH h q i)) (by simp)
    rw [← wsucc hn (show h.length ≤ 9223372036854775807 by omega)] at hr
    have no : ¬ w = true → false = w := fun h => (Bool.eq_false_iff.2 h).symm
    have hbad : ¬ goodH h q n → false = w := fun hb => no fun e => hb (hw.1 e n (Nat.le_refl _) hn)
    have hgap := fun hg => spec_gap_loop h hl q n hn _ hr 0 (Nat.zero_le _) w (hw.trans hg)
    have hj2 : (goodH h q n ↔ ∀ j, j < n → gapH h n j) → Ev (fun k => spec_HeapOk.j2 k (n : Int) false h q (rd_T86 h (n : Int)).f0 (rd_T86 h (n : Int)).f1 (rd_T86 h (n : Int)).f2) w := by
      intro hgood
      refine sh 1 ?_
      simp only [spec_HeapOk.j2, Bool.false_eq_true, if_false]
      refine hgap ⟨fun e => ⟨fun j' _ h2 => hgood.1 (e n (Nat.le_refl _) hn) j' h2, decide_eq_true fun i h1 h2 => e i (by omega) h2⟩, fun e i h1 h2 => ?_⟩
      rcases Nat.lt_or_ge n i with h3 | h3
      · exact of_decide_eq_true e.2 i h3 h2
      · obtain rfl : n = i := by omega
        exact hgood.2 fun j hj => e.1 j (Nat.zero_le _) hj
    have hjb : ¬ goodH h q n → Ev (fun k => spec_HeapOk.j2 k (n : Int) true h q (rd_T86 h (n : Int)).f0 (rd_T86 h (n : Int)).f1 (rd_T86 h (n : Int)).f2) w := by
      intro hb
      refine sh 1 ?_
      simp only [spec_HeapOk.j2, if_true]
      exact ev (hbad hb)
    refine sh 1 ?_
    simp only [spec_HeapOk.l0, lt_cast hn, Int.natCast_nonneg, if_true, spec_TickOk_eq, l01In_eq, Before_eq, Option.bind_some, decide_eq_true_eq]
    refine ite (fun g1 => ite (fun g2 => ite (fun g3 => ite (fun g4 => ?_) (fun g4 => ?_)) (fun g3 => hjb fun e => g3 e.2.2.1)) (fun g2 => hjb fun e => g2 e.2.1)) (fun g1 => hjb fun e => g1 e.1)
    · have hn0 : 0 < n := by omega
      rw [half_eq hn0 (by omega)]
      have hh : (((n - 1) / 2 : Nat) : Int) < (h.length : Int) := by omega
      simp only [Int.natCast_nonneg, if_true, if_pos hh]
      by_cases hb : Bef (rd_T86 h (n : Int)) (rd_T86 h (((n - 1) / 2 : Nat) : Int))
      · have hb' := hb
        unfold Bef at hb'
        simp only [decide_eq_true hb']
        exact hjb fun e => e.2.2.2.1 hn0 hb
      · have hb' := hb
        unfold Bef at hb'
        simp only [decide_eq_false hb']
        exact hj2 ⟨fun e => e.2.2.2.2, fun e => ⟨g1, g2, g3, fun _ => hb, e⟩⟩
    · exact hj2 ⟨fun e => e.2.2.2.2, fun e => ⟨g1, g2, g3, fun h0 => by omega, e⟩⟩
theorem impl_Heap_loop (h : List S86) (hl : h.length ≤ 100) (q : Int) : ∀ n, n ≤ h.length → ∀ w : Bool, (w = true ↔ ∀ i, n ≤ i → i < h.length → goodH h q i) → Ev (fun k => impl_HeapOk.l0 k h (h.length : Int) (n : Int) h q) w := by
  refine down ?_ ?_
  · intro w hw
    refine sh 1 ?_
    simp only [impl_HeapOk.l0, Int.lt_irrefl, if_false]
    refine ev ?_
    rw [Bool.eq_iff_iff, hw]
    exact ⟨fun _ i h1 h2 => by omega, fun _ => rfl⟩
  · intro n hn ih w hw
    classical
    have hr := ih (decide (∀ i, n + 1 ≤ i → i < h.length → goodH h q i)) (by simp)
    rw [← wsucc hn (show h.length ≤ 9223372036854775807 by omega)] at hr
    have no : ¬ w = true → false = w := fun h => (Bool.eq_false_iff.2 h).symm
    have hbad : ¬ goodH h q n → false = w := fun hb => no fun e => hb (hw.1 e n (Nat.le_refl _) hn)
    have hgap := fun hg => impl_gap_loop h hl q n hn _ hr 0 (Nat.zero_le _) w (hw.trans hg)
    have htl : ((h.take n).length : Int) = (n : Int) := by rw [List.length_take]; omega
    have hj2 : (goodH h q n ↔ ∀ j, j < n → gapH h n j) → Ev (fun k => impl_HeapOk.j2 k (n : Int) h (h.length : Int) (n : Int) false h q (rd_T86 h (n : Int)).f0 (rd_T86 h (n : Int)).f1 (rd_T86 h (n : Int)).f2) w := by
      intro hgood
      refine sh 1 ?_
      simp only [impl_HeapOk.j2, Bool.false_eq_true, if_false, Int.natCast_nonneg, if_true, if_pos (show (n : Int) ≤ (h.length : Int) by omega), Option.bind_some, Int.toNat_natCast, htl]
      refine hgap ⟨fun e => ⟨fun j' _ h2 => hgood.1 (e n (Nat.le_refl _) hn) j' h2, decide_eq_true fun i h1 h2 => e i (by omega) h2⟩, fun e i h1 h2 => ?_⟩
      rcases Nat.lt_or_ge n i with h3 | h3
      · exact of_decide_eq_true e.2 i h3 h2
      · obtain rfl : n = i := by omega
        exact hgood.2 fun j hj => e.1 j (Nat.zero_le _) hj
    have hjb : ¬ goodH h q n → Ev (fun k => impl_HeapOk.j2 k (n : Int) h (h.length : Int) (n : Int) true h q (rd_T86 h (n : Int)).f0 (rd_T86 h (n : Int)).f1 (rd_T86 h (n : Int)).f2) w := by
      intro hb
      refine sh 1 ?_
      simp only [impl_HeapOk.j2, if_true]
      exact ev (hbad hb)
    refine sh 1 ?_
    simp only [impl_HeapOk.l0, lt_cast hn, Int.natCast_nonneg, if_true, impl_TickOk_eq, in_eq, isId_eq, Option.bind_some, decide_eq_true_eq]
    refine ite (fun g1 => ite (fun g2 => ite (fun g3 => ite (fun g4 => ?_) (fun g4 => ?_)) (fun g3 => hjb fun e => g3 e.2.2.1)) (fun g2 => hjb fun e => g2 e.2.1)) (fun g1 => hjb fun e => g1 e.1)
    · have hn0 : 0 < n := by omega
      rw [half_eq hn0 (by omega)]
      have hh : (((n - 1) / 2 : Nat) : Int) < (h.length : Int) := by omega
      simp only [Int.natCast_nonneg, if_true, if_pos hh]
      refine bnd (Due_before_ev _ _ _ _ _ _) ?_
      by_cases hb : Bef (rd_T86 h (n : Int)) (rd_T86 h (((n - 1) / 2 : Nat) : Int))
      · have hb' := hb
        unfold Bef at hb'
        simp only [decide_eq_true hb']
        exact hjb fun e => e.2.2.2.1 hn0 hb
      · have hb' := hb
        unfold Bef at hb'
        simp only [decide_eq_false hb']
        exact hj2 ⟨fun e => e.2.2.2.2, fun e => ⟨g1, g2, g3, fun _ => hb, e⟩⟩
    · exact hj2 ⟨fun e => e.2.2.2.2, fun e => ⟨g1, g2, g3, fun h0 => by omega, e⟩⟩
theorem spec_HeapOk_ev (h : List S86) (q : Int) (w : Bool) (hw : w = true ↔ HOk h q) : Ev (fun k => spec_HeapOk.f k h q) w := by
  unfold spec_HeapOk.f
  have no : ¬ w = true → false = w := fun h => (Bool.eq_false_iff.2 h).symm
  refine ite (fun g => ?_) (fun g => ?_)
  · refine sh 1 ?_
    simp only [spec_HeapOk.j0, if_true]
    exact ev (no fun e => by have := (hw.1 e).1; omega)
  · simp only [spec_TickOk_eq, Option.bind_some]
    refine sh 1 ?_
    by_cases hq : 0 ≤ q ∧ q ≤ 1000000000
    · simp only [spec_HeapOk.j0, decide_eq_true hq, Bool.not_true, Bool.false_eq_true, if_false]
      exact spec_Heap_loop h (by omega) q 0 (Nat.zero_le _) w (hw.trans ⟨fun e i _ h2 => e.2.2 i h2, fun e => ⟨by omega, hq, fun i h2 => e i (Nat.zero_le _) h2⟩⟩)
    · simp only [spec_HeapOk.j0, decide_eq_false hq, Bool.not_false, if_true]
      exact ev (no fun e => hq (hw.1 e).2.1)
theorem impl_HeapOk_ev (h : List S86) (q : Int) (w : Bool) (hw : w = true ↔ HOk h q) : Ev (fun k => impl_HeapOk.f k h q) w := by
  unfold impl_HeapOk.f
  have no : ¬ w = true → false = w := fun h => (Bool.eq_false_iff.2 h).symm
  refine ite (fun g => ?_) (fun g => ?_)
  · refine sh 1 ?_
    simp only [impl_HeapOk.j0, if_true]
    exact ev (no fun e => by have := (hw.1 e).1; omega)
  · simp only [impl_TickOk_eq, Option.bind_some]
    refine sh 1 ?_
    by_cases hq : 0 ≤ q ∧ q ≤ 1000000000
    · simp only [impl_HeapOk.j0, decide_eq_true hq, Bool.not_true, Bool.false_eq_true, if_false]
      exact impl_Heap_loop h (by omega) q 0 (Nat.zero_le _) w (hw.trans ⟨fun e i _ h2 => e.2.2 i h2, fun e => ⟨by omega, hq, fun i h2 => e i (Nat.zero_le _) h2⟩⟩)
    · simp only [impl_HeapOk.j0, decide_eq_false hq, Bool.not_false, if_true]
      exact ev (no fun e => hq (hw.1 e).2.1)

def findD (h : List S86) (x : Int) (n : Int) : Int := Go.Proofs.Ytnkpjpfmjkiidaa.Giv.findI (fun d : S86 => d.f2 == x) h n
theorem Find_loop (h : List S86) (hl : h.length ≤ 100) (q x : Int) : ∀ n, n ≤ h.length → Ev (fun k => spec_l03Find.l0 k x (n : Int) h q) (findD (h.drop n) x (n : Int)) := by
  refine down ?_ ?_
  · refine sh 1 ?_
    simp only [spec_l03Find.l0, Int.lt_irrefl, if_false]
    exact ev (by simp [findD, Go.Proofs.Ytnkpjpfmjkiidaa.Giv.findI])
  · intro n hn ih
    refine sh 1 ?_
    have hw := wsucc hn (show h.length ≤ 9223372036854775807 by omega)
    simp only [spec_l03Find.l0, lt_cast hn, Int.natCast_nonneg, if_true, rdB_Due hn, hw]
    rw [drop_cons hn]
    unfold findD at ih ⊢
    rw [Go.Proofs.Ytnkpjpfmjkiidaa.Giv.findI]
    refine ite (fun g => ev ?_) (fun g => eqv ih ?_)
    · rw [if_pos (by simpa using g)]
    · rw [if_neg (by simpa using g)]
      congr 1
theorem Find_ev (h : List S86) (hl : h.length ≤ 100) (q x : Int) : Ev (fun k => spec_l03Find.f k h q x) (findD h x 0) := by
  unfold spec_l03Find.f
  exact Find_loop h hl q x 0 (Nat.zero_le _)
theorem place_eq (h : List S86) (q x : Int) : impl_Heap_place.f h q x = some (findD h x 0) := rfl

def LOk (s : List S97) (p q r t : Int) (h : List S86) (g : Int) : Prop :=
  QOk s p q r t ∧ HOk h g ∧ t = (h.length : Int) ∧ ∃ U, Chain s p U ∧ U.length ≤ 60 ∧ ∀ x ∈ idsOf s U, ¬ findD h x 0 < 0
theorem spec_Line_loop (s : List S97) (p q r t : Int) (h : List S86) (hl : h.length ≤ 100) (g : Int) (l : List Int) (hll : l.length ≤ 60) : ∀ n, n ≤ l.length → ∀ w : Bool, (w = true ↔ ∀ x ∈ l.drop n, ¬ findD h x 0 < 0) → Ev (fun k => spec_LineOk.l0 k l (n : Int) s p q r t h g) w := by
  refine down ?_ ?_
  · intro w hw
    refine sh 1 ?_
    simp only [spec_LineOk.l0, Int.lt_irrefl, if_false]
    exact ev (by rw [Bool.eq_iff_iff, hw]; simp)
  · intro n hn ih w hw
    rw [drop_cons hn] at hw
    have no : ¬ w = true → false = w := fun h => (Bool.eq_false_iff.2 h).symm
    refine sh 1 ?_
    simp only [spec_LineOk.l0, lt_cast hn, Int.natCast_nonneg, if_true, rd_get hn, wsucc hn (show l.length ≤ 9223372036854775807 by omega)]
    refine bnd (Find_ev h hl g _) ?_
    refine ite (fun g1 => ev (no fun e => hw.1 e _ List.mem_cons_self g1)) (fun g1 => ih w (hw.trans ⟨fun e x hx => e x (List.mem_cons_of_mem _ hx), fun e x hx => ?_⟩))
    rcases List.mem_cons.1 hx with rfl | hx
    · exact g1
    · exact e x hx
theorem impl_Line_loop (s : List S97) (p q r t : Int) (h : List S86) (hl : h.length ≤ 100) (g : Int) (l : List Int) (hll : l.length ≤ 60) : ∀ n, n ≤ l.length → ∀ w : Bool, (w = true ↔ ∀ x ∈ l.drop n, ¬ findD h x 0 < 0) → Ev (fun k => impl_LineOk.l0 k l (l.length : Int) (n : Int) s p q r t h g) w := by
  refine down ?_ ?_
  · intro w hw
    refine sh 1 ?_
    simp only [impl_LineOk.l0, Int.lt_irrefl, if_false]
    exact ev (by rw [Bool.eq_iff_iff, hw]; simp)
  · intro n hn ih w hw
    rw [drop_cons hn] at hw
    have no : ¬ w = true → false = w := fun h => (Bool.eq_false_iff.2 h).symm
    refine sh 1 ?_
    simp only [impl_LineOk.l0, lt_cast hn, Int.natCast_nonneg, if_true, rd_get hn, wsucc hn (show l.length ≤ 9223372036854775807 by omega), place_eq, Option.bind_some]
    refine ite (fun g1 => ev (no fun e => hw.1 e _ List.mem_cons_self g1)) (fun g1 => ih w (hw.trans ⟨fun e x hx => e x (List.mem_cons_of_mem _ hx), fun e x hx => ?_⟩))
    rcases List.mem_cons.1 hx with rfl | hx
    · exact g1
    · exact e x hx
theorem spec_LineOk_ev (s : List S97) (p q r t : Int) (h : List S86) (g : Int) (w : Bool) (hw : w = true ↔ LOk s p q r t h g) : Ev (fun k => spec_LineOk.f k s p q r t h g) w := by
  classical
  unfold spec_LineOk.f
  have no : ¬ w = true → false = w := fun h => (Bool.eq_false_iff.2 h).symm
  refine bnd (spec_QueueOk_ev s p q r t (decide (QOk s p q r t)) (by simp)) ?_
  simp only [decide_eq_true_eq]
  refine ite (fun h1 => ?_) (fun h1 => ?_)
  · refine bnd (spec_HeapOk_ev h g (decide (HOk h g)) (by simp)) ?_
    simp only [decide_eq_true_eq]
    refine ite (fun h2 => ?_) (fun h2 => ?_)
    · refine sh 1 ?_
      simp only [spec_LineOk.j0, bne_iff_ne, ne_eq]
      refine ite (fun h3 => ev (no fun e => h3 (hw.1 e).2.2.1)) (fun h3 => ?_)
      obtain ⟨hs, U, F, u1, u2, u3, u4, u5, u6, u7⟩ := id h1
      have hul : U.length ≤ 60 := by omega
      refine bnd (spec_ListQueue_ev s p q r t hs U u1 hul h1) ?_
      have hil : (idsOf s U).length ≤ 60 := by simpa [idsOf] using hul
      refine spec_Line_loop s p q r t h h2.1 g _ hil 0 (Nat.zero_le _) w (hw.trans ?_)
      rw [List.drop_zero]
      refine ⟨fun ⟨_, _, _, U', c1, _, c3⟩ => ?_, fun e => ⟨h1, h2, Decidable.of_not_not h3, U, u1, hul, e⟩⟩
      rw [chain_fn _ _ _ u1 c1]; exact c3
    · refine sh 1 ?_
      simp only [spec_LineOk.j0, if_true]
      exact ev (no fun e => h2 (hw.1 e).2.1)
  · refine sh 1 ?_
    simp only [spec_LineOk.j0, if_true]
    exact ev (no fun e => h1 (hw.1 e).1)
theorem impl_LineOk_ev (s : List S97) (p q r t : Int) (h : List S86) (g : Int) (w : Bool) (hw : w = true ↔ LOk s p q r t h g) : Ev (fun k => impl_LineOk.f k s p q r t h g) w := by
  classical
  unfold impl_LineOk.f
  have no : ¬ w = true → false = w := fun h => (Bool.eq_false_iff.2 h).symm
  refine bnd (impl_QueueOk_ev s p q r t (decide (QOk s p q r t)) (by simp)) ?_
  simp only [decide_eq_true_eq]
  refine ite (fun h1 => ?_) (fun h1 => ?_)
  · refine bnd (impl_HeapOk_ev h g (decide (HOk h g)) (by simp)) ?_
    simp only [decide_eq_true_eq]
    refine ite (fun h2 => ?_) (fun h2 => ?_)
    · refine sh 1 ?_
      simp only [impl_LineOk.j0, bne_iff_ne, ne_eq]
      refine ite (fun h3 => ev (no fun e => h3 (hw.1 e).2.2.1.symm)) (fun h3 => ?_)
      obtain ⟨hs, U, F, u1, u2, u3, u4, u5, u6, u7⟩ := id h1
      have hul : U.length ≤ 60 := by omega
      refine bnd (impl_ListQueue_ev s p q r t hs U u1 hul h1) ?_
      have hil : (idsOf s U).length ≤ 60 := by simpa [idsOf] using hul
      refine impl_Line_loop s p q r t h h2.1 g _ hil 0 (Nat.zero_le _) w (hw.trans ?_)
      rw [List.drop_zero]
      refine ⟨fun ⟨_, _, _, U', c1, _, c3⟩ => ?_, fun e => ⟨h1, h2, (Decidable.of_not_not h3).symm, U, u1, hul, e⟩⟩
      rw [chain_fn _ _ _ u1 c1]; exact c3
    · refine sh 1 ?_
      simp only [impl_LineOk.j0, if_true]
      exact ev (no fun e => h2 (hw.1 e).2.1)
  · refine sh 1 ?_
    simp only [impl_LineOk.j0, if_true]
    exact ev (no fun e => h1 (hw.1 e).1)

theorem NextDue_key (h : List S86) (g : Int) : ∃ R : Int × Int × Int × Bool, Ev (fun k => spec_NextDue.f k h g) R ∧ Ev (fun k => impl_NextDue.f k h g) R := by
  classical
  unfold spec_NextDue.f impl_NextDue.f
  by_cases hk : HOk h g
  · have q1 := spec_HeapOk_ev h g true (by simp [hk])
    have q2 := impl_HeapOk_ev h g true (by simp [hk])
    by_cases h0 : (h.length : Int) = 0
    · refine ⟨(0, 0, 0, false), bnd q1 ?_, bnd q2 ?_⟩ <;> (simp only [if_true, h0]; exact ev rfl)
    · refine ⟨((rd_T86 h 0).f0, (rd_T86 h 0).f1, (rd_T86 h 0).f2, true), bnd q1 ?_, bnd q2 ?_⟩ <;> (simp only [if_true, if_neg h0, if_pos (show 0 < (h.length : Int) by omega)]; exact ev rfl)
  · have q1 := spec_HeapOk_ev h g false (by simp [hk])
    have q2 := impl_HeapOk_ev h g false (by simp [hk])
    refine ⟨(0, 0, 0, false), bnd q1 ?_, bnd q2 ?_⟩ <;> (simp only [Bool.false_eq_true, if_false]; exact ev rfl)
theorem NextExpiry_key (s : List S97) (p q r t : Int) (h : List S86) (g : Int) : ∃ R : Int, Ev (fun k => spec_NextExpiry.f k s p q r t h g) R ∧ Ev (fun k => impl_NextExpiry.f k s p q r t h g) R := by
  classical
  obtain ⟨R, r1, r2⟩ := NextDue_key h g
  obtain ⟨a, b, c, d⟩ := R
  unfold spec_NextExpiry.f impl_NextExpiry.f
  by_cases hk : LOk s p q r t h g
  · have q1 := spec_LineOk_ev s p q r t h g true (by simp [hk])
    have q2 := impl_LineOk_ev s p q r t h g true (by simp [hk])
    cases d with
    | true => exact ⟨a, bnd q1 (by simp only [if_true]; exact bnd r1 (by simp only [if_true]; exact ev rfl)), bnd r2 (bnd q2 (by simp only [if_true]; exact ev rfl))⟩
    | false => exact ⟨-1, bnd q1 (by simp only [if_true]; exact bnd r1 (by simp only [Bool.false_eq_true, if_false]; exact ev rfl)), bnd r2 (bnd q2 (by simp only [if_true, Bool.false_eq_true, if_false]; exact ev rfl))⟩
  · have q1 := spec_LineOk_ev s p q r t h g false (by simp [hk])
    have q2 := impl_LineOk_ev s p q r t h g false (by simp [hk])
    exact ⟨-1, bnd q1 (by simp only [Bool.false_eq_true, if_false]; exact ev rfl), bnd r2 (bnd q2 (by simp only [Bool.false_eq_true, if_false]; exact ev rfl))⟩

def cvSlot (x : S100) : S97 := ⟨x.f0, x.f1, x.f2, x.f3⟩
theorem rdA_Slot {l : List S100} {n : Nat} (h : n < l.length) : rd_T100 l (n : Int) = l[n] := by unfold rd_T100; rw [Int.toNat_natCast]; exact getD_get _ h
theorem toSlotS_loop (l : List S100) (hl : l.length ≤ 9223372036854775807) : ∀ n, n ≤ l.length → ∀ acc : List S97, acc.length = l.length →
    Ev (fun k => laws_toSlotS.l0 k l acc (n : Int)) (acc.take n ++ (l.drop n).map cvSlot) := by
  refine down ?_ ?_
  · intro acc ha
    refine sh 1 ?_
    simp only [laws_toSlotS.l0, Int.lt_irrefl, if_false]
    exact ev (by simp [← ha])
  · intro n hn ih acc ha
    refine sh 1 ?_
    simp only [laws_toSlotS.l0, laws_toSlot.f, lt_cast hn, ha, Int.natCast_nonneg, if_true, wsucc hn hl, Int.toNat_natCast, rdA_Slot hn, Option.bind_some]
    refine eqv (ih (acc.set n (cvSlot l[n])) (by simp [ha])) ?_
    rw [take_set (by omega), drop_cons hn, List.map_cons, List.append_assoc]; rfl
theorem toSlotS_ev (l : List S100) (hl : l.length ≤ 1048576) : Ev (fun k => laws_toSlotS.f k l) (l.map cvSlot) := by
  unfold laws_toSlotS.f
  simp only [Int.natCast_nonneg, if_true, Int.toNat_natCast]
  refine ite (fun _ => ?_) (fun h => absurd (show l.length ≤ 1099511627776 by omega) (by omega))
  exact eqv (toSlotS_loop l (by omega) 0 (Nat.zero_le _) (List.replicate l.length z97) (by simp)) (by simp)

def cvDue (x : S120) : S86 := ⟨x.f0, x.f1, x.f2⟩
theorem rdA_Due {l : List S120} {n : Nat} (h : n < l.length) : rd_T120 l (n : Int) = l[n] := by unfold rd_T120; rw [Int.toNat_natCast]; exact getD_get _ h
theorem toDueS_loop (l : List S120) (hl : l.length ≤ 9223372036854775807) : ∀ n, n ≤ l.length → ∀ acc : List S86, acc.length = l.length →
    Ev (fun k => laws_toDueS.l0 k l acc (n : Int)) (acc.take n ++ (l.drop n).map cvDue) := by
  refine down ?_ ?_
  · intro acc ha
    refine sh 1 ?_
    simp only [laws_toDueS.l0, Int.lt_irrefl, if_false]
    exact ev (by simp [← ha])
  · intro n hn ih acc ha
    refine sh 1 ?_
    simp only [laws_toDueS.l0, laws_toDue.f, lt_cast hn, ha, Int.natCast_nonneg, if_true, wsucc hn hl, Int.toNat_natCast, rdA_Due hn, Option.bind_some]
    refine eqv (ih (acc.set n (cvDue l[n])) (by simp [ha])) ?_
    rw [take_set (by omega), drop_cons hn, List.map_cons, List.append_assoc]; rfl
theorem toDueS_ev (l : List S120) (hl : l.length ≤ 1048576) : Ev (fun k => laws_toDueS.f k l) (l.map cvDue) := by
  unfold laws_toDueS.f
  simp only [Int.natCast_nonneg, if_true, Int.toNat_natCast]
  refine ite (fun _ => ?_) (fun h => absurd (show l.length ≤ 1099511627776 by omega) (by omega))
  exact eqv (toDueS_loop l (by omega) 0 (Nat.zero_le _) (List.replicate l.length z86) (by simp)) (by simp)

theorem szSlotS_eq (l : List S100) (c : Int) (hc0 : 0 ≤ c) (hc : c ≤ 1048576) (hl : l.length ≤ maxLen) : laws_szSlotS.f l c = some (if c < (l.length : Int) then -1 else c - (l.length : Int)) := by
  unfold laws_szSlotS.f
  unfold maxLen at hl
  have e : wrap64 (c - (l.length : Int)) = c - (l.length : Int) := wid (by omega) (by omega)
  rw [e]
  split
  · rw [if_pos (by omega)]
  · rw [if_neg (by omega)]
theorem szDueS_eq (l : List S120) (c : Int) (hc0 : 0 ≤ c) (hc : c ≤ 1048576) (hl : l.length ≤ maxLen) : laws_szDueS.f l c = some (if c < (l.length : Int) then -1 else c - (l.length : Int)) := by
  unfold laws_szDueS.f
  unfold maxLen at hl
  have e : wrap64 (c - (l.length : Int)) = c - (l.length : Int) := wid (by omega) (by omega)
  rw [e]
  split
  · rw [if_pos (by omega)]
  · rw [if_neg (by omega)]
theorem szLine_small (s : List S100) (p q r t : Int) (h : List S120) (g : Int) (hs : s.length ≤ maxLen) (hh : h.length ≤ maxLen) : ∃ x, laws_szLine.f s p q r t h g 1048576 = some x ∧ (¬ x < 0 → s.length ≤ 1048576 ∧ h.length ≤ 1048576) := by
  unfold laws_szLine.f laws_szQueue.f laws_szHeap.f
  simp only [szSlotS_eq s 1048576 (by omega) (by omega) hs, Option.bind_some]
  by_cases h1 : (1048576 : Int) < (s.length : Int)
  · simp only [if_pos h1, if_pos (show (-1 : Int) < 0 by omega), Option.bind_some]
    exact ⟨_, rfl, fun e => absurd (by omega) e⟩
  · have h2 : ¬ (1048576 - (s.length : Int) < 0) := by omega
    simp only [if_neg h1, if_neg h2, Option.bind_some, szDueS_eq h _ (show 0 ≤ 1048576 - (s.length : Int) by omega) (by omega) hh]
    by_cases h3 : 1048576 - (s.length : Int) < (h.length : Int)
    · simp only [if_pos h3, if_pos (show (-1 : Int) < 0 by omega), Option.bind_some]
      exact ⟨_, rfl, fun e => absurd (by omega) e⟩
    · simp only [if_neg h3, if_neg (show ¬ (1048576 - (s.length : Int) - (h.length : Int) < 0) by omega), Option.bind_some]
      exact ⟨_, rfl, fun e => ⟨by omega, by omega⟩⟩
theorem toLine_ev (s : List S100) (p q r t : Int) (h : List S120) (g : Int) (hs : s.length ≤ 1048576) (hh : h.length ≤ 1048576) : Ev (fun k => laws_toLine.f k s p q r t h g) (s.map cvSlot, p, q, r, t, h.map cvDue, g) := by
  unfold laws_toLine.f laws_toQueue.f laws_toHeap.f
  refine bnd (bnd (toSlotS_ev s hs) (ev rfl)) ?_
  exact bnd (bnd (toDueS_ev h hh) (ev rfl)) (ev rfl)
theorem eqLine_ev (s : List S97) (p q r t : Int) (h : List S86) (g : Int) (hs : s.length ≤ 9223372036854775807) (hh : h.length ≤ 9223372036854775807) : Ev (fun k => laws_eqLine.f k s p q r t h g s p q r t h g) true := by
  unfold laws_eqLine.f laws_eqQueue.f laws_eqHeap.f
  refine bnd (b := true) ?_ ?_
  · refine bnd (eqSlotS_ev s hs) ?_
    simp only [if_true]; exact ev rfl
  · simp only [if_true]
    refine bnd (b := true) ?_ ?_
    · refine bnd (eqDueS_ev h hh) ?_
      simp only [if_true]; exact ev rfl
    · simp only [if_true]; exact ev rfl

theorem pure_holds : PureOf := by
  intro s p q r t h g hs hp hq hr ht hh hg
  refine Ev.rounds (g := fun k => laws_FnExactNextExpiry.f k s p q r t h g) ?_
  unfold laws_FnExactNextExpiry.f
  obtain ⟨x, hx, hsm⟩ := szLine_small s p q r t h g hs.1 hh.1
  simp only [hx, Option.bind_some]
  refine ite (fun _ => ev rfl) (fun hn => ?_)
  obtain ⟨hsl, hhl⟩ := hsm hn
  have ht := toLine_ev s p q r t h g hsl hhl
  have hsl2 : (s.map cvSlot).length ≤ 9223372036854775807 := by rw [List.length_map]; omega
  have hhl2 : (h.map cvDue).length ≤ 9223372036854775807 := by rw [List.length_map]; omega
  generalize s.map cvSlot = s1 at ht hsl2
  generalize h.map cvDue = h1 at ht hhl2
  obtain ⟨R, g1, g2⟩ := NextExpiry_key s1 p q r t h1 g
  have he := eqLine_ev s1 p q r t h1 g hsl2 hhl2
  refine bnd ht (bnd g1 (bnd ht (bnd g2 ?_)))
  simp only [if_true]
  refine bnd ht (bnd he ?_)
  simp only [if_true]
  exact ev rfl

end Go.Proofs.Ytnkpjpfmjkiidaa.PFnExactNextExpiry
