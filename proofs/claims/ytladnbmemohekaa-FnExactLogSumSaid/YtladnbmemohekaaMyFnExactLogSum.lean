/- The pure statement of FnExactLogSum: the program's LogSum answers what the reference's answers, for every input. -/
import Derived.Test.YtladnbmemohekaaPFnExactLogSumx0
import Derived.Test.YtladnbmemohekaaPFnExactLogSumx1
import Derived.Test.YtladnbmemohekaaPFnExactLogSumx2
import Derived.Test.YtladnbmemohekaaPFnExactLogSumx3
import Derived.Test.YtladnbmemohekaaPFnExactLogSumx4
import Derived.Test.YtladnbmemohekaaPFnExactLogSumx5
import Derived.Test.YtladnbmemohekaaAid
import Derived.Test.YtladnbmemohekaaGFnExactLogSum
namespace Go.Proofs.Ytladnbmemohekaa.PFnExactLogSum
open Go.RowKit Go.Proofs.YtladnbmemohekaaW.PrintWords Go.Proofs.YtladnbmemohekaaW.PrintLast Go.Proofs.Ytladnbmemohekaa.Opn Go.Proofs.Ytladnbmemohekaa.Aid
set_option linter.unusedVariables false
set_option linter.unusedSimpArgs false

def PureOf : Prop := ∀ (l0 : List (S52)), (l0.length ≤ maxLen ∧ ∀ y2 ∈ l0, G52 y2) → ∃ k, laws_FnExactLogSum.f k l0 = some true
theorem l01In_eq (a b c : Int) : spec_l01In.f a b c = some (decide (b ≤ a ∧ a ≤ c)) := by
  unfold spec_l01In.f; split <;> simp [*]
theorem in_eq (a b c : Int) : impl_in.f a b c = some (decide (b ≤ a ∧ a ≤ c)) := by
  unfold impl_in.f; split
  · simp_all
  · next h => simp; omega

theorem spec_TickOk_eq (a : Int) : spec_TickOk.f a = some (decide (0 ≤ a ∧ a ≤ 1000000000)) := by
  unfold spec_TickOk.f; rw [l01In_eq]; rfl

theorem impl_TickOk_eq (a : Int) : impl_TickOk.f a = some (decide (0 ≤ a ∧ a ≤ 1000000000)) := by
  unfold impl_TickOk.f; rw [in_eq]; rfl

/-- A number's bytes: groups of seven bits, the lowest first. -/
def putB : Nat → Int → List Int
  | 0, x => [x]
  | n + 1, x => if 128 ≤ x then (x % 128 + 128) :: putB n (x / 128) else [x]
def putN (x : Int) : List Int := putB 4 x
theorem putB_length : ∀ n x, 1 ≤ (putB n x).length ∧ (putB n x).length ≤ n + 1
  | 0, x => by simp [putB]
  | n + 1, x => by
    have := putB_length n (x / 128)
    unfold putB; split <;> simp <;> omega
theorem spec_Put_loop : ∀ (n : Nat) (x : Int) (acc : List Int), 0 ≤ x → x < 128 * 128 ^ n → x ≤ 1000000000 → acc.length + n ≤ 1000 → Ev (fun k => spec_PutNumber.l0 k x acc) (acc ++ putB n x) := by
  intro n
  induction n with
  | zero =>
    intro x acc h0 h1 _ ha
    refine sh 1 ?_
    simp only [spec_PutNumber.l0, if_neg (show ¬ x ≥ 128 by omega), if_pos (show acc.length < 140737488355328 by omega)]
    exact ev (by rw [Int.emod_eq_of_lt h0 (by omega)]; rfl)
  | succ n ih =>
    intro x acc h0 h1 h2 ha
    refine sh 1 ?_
    simp only [spec_PutNumber.l0, if_pos (show acc.length < 140737488355328 by omega)]
    rw [putB]
    refine ite (fun h => ?_) (fun h => ?_)
    · rw [if_pos h, Int.tdiv_eq_ediv_of_nonneg h0, Int.tmod_eq_emod_of_nonneg h0, wid (x := x / 128) (by omega) (by omega), wid (x := 128 + x % 128) (by omega) (by omega), show (128 + x % 128) % 256 = x % 128 + 128 by omega]
      have hp : x / 128 < 128 * 128 ^ n := by
        rw [Int.pow_succ] at h1
        generalize (128 : Int) ^ n = z at h1 ⊢
        omega
      refine eqv (ih (x / 128) (acc ++ [x % 128 + 128]) (by omega) hp (by omega) (by simp; omega)) ?_
      simp
    · rw [if_neg h]
      exact ev (by rw [Int.emod_eq_of_lt h0 (by omega)])
theorem spec_PutNumber_ev (x : Int) (h0 : 0 ≤ x) (h1 : x ≤ 1000000000) : Ev (fun k => spec_PutNumber.f k x) (putN x) := by
  unfold spec_PutNumber.f
  simp only [spec_TickOk_eq, Option.bind_some, decide_eq_true_eq, if_pos (show 0 ≤ x ∧ x ≤ 1000000000 from ⟨h0, h1⟩)]
  exact eqv (spec_Put_loop 4 x [] h0 (by omega) h1 (by simp)) rfl
theorem spec_PutNumber_no (x : Int) (h : ¬ (0 ≤ x ∧ x ≤ 1000000000)) : Ev (fun k => spec_PutNumber.f k x) [] := by
  unfold spec_PutNumber.f
  simp only [spec_TickOk_eq, Option.bind_some, decide_eq_true_eq, if_neg h]
  exact ev rfl

theorem impl_Put_loop : ∀ (n : Nat) (x : Int) (acc : List Int), 0 ≤ x → x < 128 * 128 ^ n → x ≤ 1000000000 → acc.length + n ≤ 1000 → Ev (fun k => impl_PutNumber.l0 k x acc) (acc ++ putB n x) := by
  intro n
  induction n with
  | zero =>
    intro x acc h0 h1 _ ha
    refine sh 1 ?_
    simp only [impl_PutNumber.l0, if_neg (show ¬ x ≥ 128 by omega), if_pos (show acc.length < 140737488355328 by omega)]
    exact ev (by rw [Int.emod_eq_of_lt h0 (by omega)]; rfl)
  | succ n ih =>
    intro x acc h0 h1 h2 ha
    refine sh 1 ?_
    simp only [impl_PutNumber.l0, if_pos (show acc.length < 140737488355328 by omega)]
    rw [putB]
    refine ite (fun h => ?_) (fun h => ?_)
    · rw [if_pos h, Int.tdiv_eq_ediv_of_nonneg h0, Int.tmod_eq_emod_of_nonneg h0, wid (x := x / 128) (by omega) (by omega), wid (x := x % 128 + 128) (by omega) (by omega), show (x % 128 + 128) % 256 = x % 128 + 128 by omega]
      have hp : x / 128 < 128 * 128 ^ n := by
        rw [Int.pow_succ] at h1
        generalize (128 : Int) ^ n = z at h1 ⊢
        omega
      refine eqv (ih (x / 128) (acc ++ [x % 128 + 128]) (by omega) hp (by omega) (by simp; omega)) ?_
      simp
    · rw [if_neg h]
      exact ev (by rw [Int.emod_eq_of_lt h0 (by omega)])
theorem impl_PutNumber_ev (x : Int) (h0 : 0 ≤ x) (h1 : x ≤ 1000000000) : Ev (fun k => impl_PutNumber.f k x) (putN x) := by
  unfold impl_PutNumber.f
  simp only [impl_TickOk_eq, Option.bind_some, decide_eq_true_eq, if_pos (show 0 ≤ x ∧ x ≤ 1000000000 from ⟨h0, h1⟩)]
  exact eqv (impl_Put_loop 4 x [] h0 (by omega) h1 (by simp)) rfl
theorem impl_PutNumber_no (x : Int) (h : ¬ (0 ≤ x ∧ x ≤ 1000000000)) : Ev (fun k => impl_PutNumber.f k x) [] := by
  unfold impl_PutNumber.f
  simp only [impl_TickOk_eq, Option.bind_some, decide_eq_true_eq, if_neg h]
  exact ev rfl

theorem l01Bytes_loop (l : List Int) (hl : l.length ≤ 1048576) : ∀ n, n ≤ l.length → ∀ acc : List Int, acc.length ≤ n → Ev (fun k => spec_l01Bytes.l0 k l acc (n : Int)) (acc ++ l.drop n) := by
  refine down ?_ ?_
  · intro acc ha
    refine sh 1 ?_
    simp only [spec_l01Bytes.l0, Int.lt_irrefl, if_false]
    exact ev (by simp)
  · intro n hn ih acc ha
    refine sh 1 ?_
    simp only [spec_l01Bytes.l0, lt_cast hn, Int.natCast_nonneg, if_true, wsucc hn (show l.length ≤ 9223372036854775807 by omega), rd_get hn, if_pos (show acc.length < 140737488355328 by omega)]
    refine eqv (ih (acc ++ [l[n]]) (by simp; omega)) ?_
    rw [drop_cons hn, List.append_assoc]; rfl
theorem l01Bytes_ev (l : List Int) (hl : l.length ≤ 1048576) : Ev (fun k => spec_l01Bytes.f k l) l := by
  unfold spec_l01Bytes.f
  exact eqv (l01Bytes_loop l hl 0 (Nat.zero_le _) [] (by simp)) (by simp)
theorem l01Join_loop (B : Nat) (hB : B ≤ 1048576) (l : List Int) (hl : l.length ≤ 1048576) : ∀ n, n ≤ l.length → ∀ acc : List Int, acc.length ≤ n + B → Ev (fun k => spec_l01Join.l0 k l acc (n : Int)) (acc ++ l.drop n) := by
  refine down ?_ ?_
  · intro acc ha
    refine sh 1 ?_
    simp only [spec_l01Join.l0, Int.lt_irrefl, if_false]
    exact ev (by simp)
  · intro n hn ih acc ha
    refine sh 1 ?_
    simp only [spec_l01Join.l0, lt_cast hn, Int.natCast_nonneg, if_true, wsucc hn (show l.length ≤ 9223372036854775807 by omega), rd_get hn, if_pos (show acc.length < 140737488355328 by omega)]
    refine eqv (ih (acc ++ [l[n]]) (by simp; omega)) ?_
    rw [drop_cons hn, List.append_assoc]; rfl
theorem l01Join_ev (a l : List Int) (ha : a.length ≤ 1048576) (hl : l.length ≤ 1048576) : Ev (fun k => spec_l01Join.f k a l) (a ++ l) := by
  unfold spec_l01Join.f
  refine bnd (l01Bytes_ev a ha) ?_
  exact eqv (l01Join_loop a.length ha l hl 0 (Nat.zero_le _) a (by omega)) (by simp)

def EvPut (a b c : Int) : Prop := (0 ≤ a ∧ a ≤ 11) ∧ (0 ≤ b ∧ b ≤ 1000000000) ∧ (0 ≤ c ∧ c ≤ 1000000000)
instance (a b c : Int) : Decidable (EvPut a b c) := by unfold EvPut; infer_instance
def putE (a b c : Int) : List Int := a :: (putN b ++ putN c)
def putEo (a b c : Int) : List Int := if EvPut a b c then putE a b c else []
theorem putN_length (x : Int) : 1 ≤ (putN x).length ∧ (putN x).length ≤ 5 := putB_length 4 x
theorem putE_length (a b c : Int) : 3 ≤ (putE a b c).length ∧ (putE a b c).length ≤ 11 := by
  have := putN_length b; have := putN_length c; unfold putE; simp; omega
theorem spec_PutEvent_ev (a b c : Int) : Ev (fun k => spec_PutEvent.f k a b c) (putEo a b c) := by
  unfold spec_PutEvent.f putEo
  have hb := putN_length b; have hc := putN_length c
  refine sh 1 ?_
  simp only [l01In_eq, spec_TickOk_eq, spec_PutEvent.j0, Option.bind_some, decide_eq_true_eq, Bool.not_eq_true', Bool.not_eq_true, decide_eq_false_iff_not, beq_iff_eq, bne_iff_ne, ne_eq, Bool.false_eq_true, Bool.true_eq_false, eq_self_iff_true, if_true, if_false, reduceIte, not_true_eq_false, not_false_eq_true]
  refine ite (fun h1 => ite (fun h2 => ite (fun h3 => ?_) (fun h3 => ?_)) (fun h2 => ?_)) (fun h1 => ?_)
  · exact ev (by rw [if_neg]; unfold EvPut; omega)
  · rw [if_pos (by unfold EvPut; omega)]
    refine bnd (spec_PutNumber_ev b h2.1 h2.2) ?_
    refine bnd (l01Join_ev _ _ (by simp) (by omega)) ?_
    refine bnd (spec_PutNumber_ev c (by omega) (by omega)) ?_
    refine bnd (l01Join_ev _ _ (by simp; omega) (by omega)) ?_
    refine ev ?_
    rw [Int.emod_eq_of_lt (by omega) (by omega)]; simp [putE]
  · exact ev (by rw [if_neg]; unfold EvPut; omega)
  · exact ev (by rw [if_neg]; unfold EvPut; omega)
theorem impl_PutEvent_ev (a b c : Int) : Ev (fun k => impl_PutEvent.f k a b c) (putEo a b c) := by
  unfold impl_PutEvent.f putEo
  have hb := putN_length b; have hc := putN_length c
  refine sh 1 ?_
  simp only [in_eq, impl_TickOk_eq, impl_PutEvent.j0, Option.bind_some, decide_eq_true_eq, Bool.not_eq_true', Bool.not_eq_true, decide_eq_false_iff_not, beq_iff_eq, bne_iff_ne, ne_eq, Bool.false_eq_true, Bool.true_eq_false, eq_self_iff_true, if_true, if_false, reduceIte, not_true_eq_false, not_false_eq_true]
  refine ite (fun h1 => ite (fun h2 => ite (fun h3 => ?_) (fun h3 => ?_)) (fun h2 => ?_)) (fun h1 => ?_)
  · exact ev (by rw [if_neg]; unfold EvPut; omega)
  · rw [if_pos (by unfold EvPut; omega)]
    refine bnd (impl_PutNumber_ev b h2.1 h2.2) ?_
    refine ite (fun _ => ?_) (fun h => by exfalso; apply h; simp only [List.length_cons, List.length_nil]; omega)
    refine bnd (impl_PutNumber_ev c (by omega) (by omega)) ?_
    refine ite (fun _ => ?_) (fun h => by exfalso; apply h; simp only [List.length_append, List.length_cons, List.length_nil]; omega)
    refine ev ?_
    rw [Int.emod_eq_of_lt (by omega) (by omega)]; simp [putE]
  · exact ev (by rw [if_neg]; unfold EvPut; omega)
  · exact ev (by rw [if_neg]; unfold EvPut; omega)
theorem putEo_length (a b c : Int) : (putEo a b c).length ≤ 11 := by
  unfold putEo; split
  · exact (putE_length a b c).2
  · simp

theorem rdB_Event {l : List S50} {n : Nat} (h : n < l.length) : rd_T50 l (n : Int) = l[n] := by unfold rd_T50; rw [Int.toNat_natCast]; exact getD_get _ h
theorem eqEvent_self (x : S50) : laws_eqEvent.f x.f0 x.f1 x.f2 x.f0 x.f1 x.f2 = some true := by unfold laws_eqEvent.f; simp
theorem eqEventS_loop (l : List S50) (hl : l.length ≤ 9223372036854775807) : ∀ n, n ≤ l.length → Ev (fun k => laws_eqEventS.l0 k l l (n : Int)) true := by
  refine down ?_ ?_
  · refine sh 1 ?_
    simp only [laws_eqEventS.l0, Int.lt_irrefl, if_false]
    exact ev rfl
  · intro n hn ih
    refine sh 1 ?_
    simp only [laws_eqEventS.l0, lt_cast hn, Int.natCast_nonneg, if_true, wsucc hn hl, eqEvent_self, Option.bind_some]
    exact ih
theorem eqEventS_ev (l : List S50) (hl : l.length ≤ 9223372036854775807) : Ev (fun k => laws_eqEventS.f k l l) true := by
  unfold laws_eqEventS.f
  simp only [if_true]
  exact eqEventS_loop l hl 0 (Nat.zero_le _)

def cvEvent (x : S52) : S50 := ⟨x.f0, x.f1, x.f2⟩
theorem rdA_Event {l : List S52} {n : Nat} (h : n < l.length) : rd_T52 l (n : Int) = l[n] := by unfold rd_T52; rw [Int.toNat_natCast]; exact getD_get _ h
theorem toEventS_loop (l : List S52) (hl : l.length ≤ 9223372036854775807) : ∀ n, n ≤ l.length → ∀ acc : List S50, acc.length = l.length →
    Ev (fun k => laws_toEventS.l0 k l acc (n : Int)) (acc.take n ++ (l.drop n).map cvEvent) := by
  refine down ?_ ?_
  · intro acc ha
    refine sh 1 ?_
    simp only [laws_toEventS.l0, Int.lt_irrefl, if_false]
    exact ev (by simp [← ha])
  · intro n hn ih acc ha
    refine sh 1 ?_
    simp only [laws_toEventS.l0, laws_toEvent.f, lt_cast hn, ha, Int.natCast_nonneg, if_true, wsucc hn hl, Int.toNat_natCast, rdA_Event hn, Option.bind_some]
    refine eqv (ih (acc.set n (cvEvent l[n])) (by simp [ha])) ?_
    rw [take_set (by omega), drop_cons hn, List.map_cons, List.append_assoc]; rfl
theorem toEventS_ev (l : List S52) (hl : l.length ≤ 1048576) : Ev (fun k => laws_toEventS.f k l) (l.map cvEvent) := by
  unfold laws_toEventS.f
  simp only [Int.natCast_nonneg, if_true, Int.toNat_natCast]
  refine ite (fun _ => ?_) (fun h => absurd (show l.length ≤ 1099511627776 by omega) (by omega))
  exact eqv (toEventS_loop l (by omega) 0 (Nat.zero_le _) (List.replicate l.length z50) (by simp)) (by simp)

def flat (l : List S50) : List Int := l.flatMap (fun e => putE e.f0 e.f1 e.f2)
def AllPut (l : List S50) : Prop := ∀ e ∈ l, EvPut e.f0 e.f1 e.f2
instance (l : List S50) : Decidable (AllPut l) := by unfold AllPut; infer_instance
def putR (acc : List Int) (l : List S50) : List Int × Bool := if AllPut l ∧ (acc ++ flat l).length ≤ 8000 then (acc ++ flat l, true) else ([], false)
theorem putR_no {acc : List Int} {e : S50} {l : List S50} (h : ¬ EvPut e.f0 e.f1 e.f2) : putR acc (e :: l) = ([], false) := by
  unfold putR; rw [if_neg]; rintro ⟨h1, _⟩; exact h (h1 e List.mem_cons_self)
theorem flat_cons (e : S50) (l : List S50) : flat (e :: l) = putE e.f0 e.f1 e.f2 ++ flat l := by simp [flat]
theorem putR_long {acc : List Int} {e : S50} {l : List S50} (h : 8000 < acc.length + (putE e.f0 e.f1 e.f2).length) : putR acc (e :: l) = ([], false) := by
  unfold putR; rw [if_neg]; rintro ⟨_, h1⟩; rw [flat_cons] at h1; simp only [List.length_append] at h1; omega
theorem putR_step {acc : List Int} {e : S50} {l : List S50} (h : EvPut e.f0 e.f1 e.f2) : putR acc (e :: l) = putR (acc ++ putE e.f0 e.f1 e.f2) l := by
  unfold putR AllPut
  rw [flat_cons, List.append_assoc]
  have : (∀ x ∈ e :: l, EvPut x.f0 x.f1 x.f2) ↔ ∀ x ∈ l, EvPut x.f0 x.f1 x.f2 := by rw [List.forall_mem_cons]; exact ⟨fun h => h.2, fun h2 => ⟨h, h2⟩⟩
  simp only [this]
theorem spec_PutLog_inner (B : Nat) (hB : B ≤ 8000) (l : List S50) (i : Int) (b : List Int) (hb : b.length ≤ 1000) (r : List Int × Bool) : ∀ j, j ≤ b.length → ∀ acc : List Int, acc.length ≤ j + B → Ev (fun k => spec_PutLog.l0 k l (acc ++ b.drop j) (wrap64 (i + 1))) r → Ev (fun k => spec_PutLog.l1 k l acc i b (j : Int)) r := by
  refine down ?_ ?_
  · intro acc ha h
    refine sh 1 ?_
    simp only [spec_PutLog.l1, Int.lt_irrefl, if_false]
    rw [List.drop_length, List.append_nil] at h
    exact h
  · intro j hj ih acc ha h
    refine sh 1 ?_
    simp only [spec_PutLog.l1, lt_cast hj, Int.natCast_nonneg, if_true, if_pos (show acc.length < 140737488355328 by omega), rd_get hj, wsucc hj (show b.length ≤ 9223372036854775807 by omega)]
    refine ih (acc ++ [b[j]]) (by simp; omega) ?_
    rw [drop_cons hj] at h
    rw [List.append_assoc]; exact h
theorem spec_PutLog_loop (l : List S50) (hl : l.length ≤ 1048576) : ∀ n, n ≤ l.length → ∀ acc : List Int, acc.length ≤ 8000 → Ev (fun k => spec_PutLog.l0 k l acc (n : Int)) (putR acc (l.drop n)) := by
  refine down ?_ ?_
  · intro acc ha
    refine sh 1 ?_
    simp only [spec_PutLog.l0, Int.lt_irrefl, if_false]
    exact ev (by simp [putR, AllPut, flat, ha])
  · intro n hn ih acc ha
    refine sh 1 ?_
    have hw : wrap64 ((n : Int) + 1) = ((n + 1 : Nat) : Int) := wsucc hn (by omega)
    have hw8 : wrap64 (8000 - (acc.length : Int)) = 8000 - acc.length := wid (by omega) (by omega)
    simp only [spec_PutLog.l0, lt_cast hn, Int.natCast_nonneg, rdB_Event hn, hw8, if_true]
    rw [drop_cons hn]
    clear hw8
    generalize l[n] = e
    have hp := spec_PutEvent_ev e.f0 e.f1 e.f2
    unfold putEo at hp
    by_cases h : EvPut e.f0 e.f1 e.f2
    · rw [if_pos h] at hp
      refine bnd hp ?_
      have hlen := putE_length e.f0 e.f1 e.f2
      refine ite (fun h0 => absurd h0 (by omega)) (fun _ => ?_)
      refine sh 1 ?_
      simp only [spec_PutLog.j1, decide_eq_true_eq]
      refine ite (fun h1 => ev (putR_long (by omega)).symm) (fun h1 => ?_)
      rw [putR_step h]
      refine spec_PutLog_inner acc.length ha l n _ (by omega) _ 0 (Nat.zero_le _) acc (by omega) ?_
      rw [hw, List.drop_zero]
      exact ih _ (by simp only [List.length_append]; omega)
    · rw [if_neg h] at hp
      refine bnd hp ?_
      refine ite (fun _ => ?_) (fun h0 => absurd rfl h0)
      refine sh 1 ?_
      simp only [spec_PutLog.j1, if_true]
      exact ev (putR_no h).symm
theorem spec_PutLog_ev (l : List S50) (hl : l.length ≤ 1048576) : Ev (fun k => spec_PutLog.f k l) (if l.length ≤ 2000 then putR [] l else ([], false)) := by
  unfold spec_PutLog.f
  refine ite (fun h => ev (by rw [if_neg (by omega)])) (fun h => ?_)
  rw [if_pos (by omega)]
  exact spec_PutLog_loop l hl 0 (Nat.zero_le _) [] (by simp)
theorem impl_PutLog_loop (l : List S50) (hl : l.length ≤ 1048576) : ∀ n, n ≤ l.length → ∀ acc : List Int, acc.length ≤ 11 * n → Ev (fun k => impl_PutLog.l0 k acc l (l.length : Int) (n : Int)) (putR acc (l.drop n)) := by
  refine down ?_ ?_
  · intro acc ha
    refine sh 1 ?_
    simp only [impl_PutLog.l0, Int.lt_irrefl, if_false]
    refine ite (fun h => ev ?_) (fun h => ev ?_)
    · rw [List.drop_length]; unfold putR; rw [if_neg]; rintro ⟨_, h2⟩; simp [flat] at h2; omega
    · rw [List.drop_length]; unfold putR; rw [if_pos ⟨by simp [AllPut], by simp [flat]; omega⟩]; simp [flat]
  · intro n hn ih acc ha
    refine sh 1 ?_
    have hw : wrap64 ((n : Int) + 1) = ((n + 1 : Nat) : Int) := wsucc hn (by omega)
    simp only [impl_PutLog.l0, lt_cast hn, Int.natCast_nonneg, rdB_Event hn, hw, if_true]
    rw [drop_cons hn]
    generalize l[n] = e
    have hp := impl_PutEvent_ev e.f0 e.f1 e.f2
    unfold putEo at hp
    by_cases h : EvPut e.f0 e.f1 e.f2
    · rw [if_pos h] at hp
      refine bnd hp ?_
      have hlen := putE_length e.f0 e.f1 e.f2
      refine ite (fun h0 => absurd h0 (by omega)) (fun _ => ?_)
      refine ite (fun _ => ?_) (fun h0 => absurd (show acc.length + (putE e.f0 e.f1 e.f2).length < 140737488355328 by omega) h0)
      rw [putR_step h]
      exact ih _ (by simp only [List.length_append]; omega)
    · rw [if_neg h] at hp
      refine bnd hp ?_
      refine ite (fun _ => ?_) (fun h0 => absurd rfl h0)
      exact ev (putR_no h).symm
theorem impl_PutLog_ev (l : List S50) (hl : l.length ≤ 1048576) : Ev (fun k => impl_PutLog.f k l) (if l.length ≤ 2000 then putR [] l else ([], false)) := by
  unfold impl_PutLog.f
  refine ite (fun h => ev (by rw [if_neg (by omega)])) (fun h => ?_)
  rw [if_pos (by omega)]
  exact impl_PutLog_loop l hl 0 (Nat.zero_le _) [] (by simp)
theorem putR_length (l : List S50) : (if l.length ≤ 2000 then putR [] l else ([], false)).1.length ≤ 8000 := by
  split
  · unfold putR; split
    · next h => exact h.2
    · simp
  · simp

def sumS (h x : Int) : Int := Int.tmod (wrap64 ((wrap64 (131 * h)) + (wrap64 x))) 1000003
theorem spec_Sum_loop (b : List Int) (hl : b.length ≤ 1048576) : ∀ n, n ≤ b.length → ∀ h, Ev (fun k => spec_LogSum.l0 k b h (n : Int)) ((b.drop n).foldl sumS h) := by
  refine down ?_ ?_
  · intro h
    refine sh 1 ?_
    simp only [spec_LogSum.l0, Int.lt_irrefl, if_false]
    exact ev (by simp)
  · intro n hn ih h
    refine sh 1 ?_
    simp only [spec_LogSum.l0, lt_cast hn, Int.natCast_nonneg, if_true, wsucc hn (show b.length ≤ 9223372036854775807 by omega), rd_get hn]
    rw [drop_cons hn, List.foldl_cons]
    exact ih _
theorem impl_Sum_loop (b : List Int) (hl : b.length ≤ 1048576) : ∀ n, n ≤ b.length → ∀ h, Ev (fun k => impl_LogSum.l0 k h b (b.length : Int) (n : Int)) ((b.drop n).foldl sumS h) := by
  refine down ?_ ?_
  · intro h
    refine sh 1 ?_
    simp only [impl_LogSum.l0, Int.lt_irrefl, if_false]
    exact ev (by simp)
  · intro n hn ih h
    refine sh 1 ?_
    simp only [impl_LogSum.l0, lt_cast hn, Int.natCast_nonneg, if_true, wsucc hn (show b.length ≤ 9223372036854775807 by omega), rd_get hn]
    rw [drop_cons hn, List.foldl_cons]
    exact ih _
theorem logSum_key (l : List S50) (hl : l.length ≤ 1048576) : ∃ r, Ev (fun k => spec_LogSum.f k l) r ∧ Ev (fun k => impl_LogSum.f k l) r := by
  have h1 := spec_PutLog_ev l hl
  have h2 := impl_PutLog_ev l hl
  have hr := putR_length l
  generalize (if l.length ≤ 2000 then putR [] l else ([], false)) = q at h1 h2 hr
  obtain ⟨b, ok⟩ := q
  simp only at hr
  refine ⟨if ok = true then b.foldl sumS 1 else -1, ?_, ?_⟩
  · unfold spec_LogSum.f
    refine bnd h1 ?_
    refine ite (fun h => ?_) (fun h => ev (by rw [if_neg h]))
    rw [if_pos h]; exact spec_Sum_loop b (by omega) 0 (Nat.zero_le _) 1
  · unfold impl_LogSum.f
    refine bnd h2 ?_
    refine ite (fun h => ?_) (fun h => ev (by rw [if_neg h]))
    rw [if_pos h]; exact impl_Sum_loop b (by omega) 0 (Nat.zero_le _) 1

theorem szEventS_small (l : List S52) (hl : l.length ≤ maxLen) : ∃ t, laws_szEventS.f l 1048576 = some t ∧ (¬ t < 0 → l.length ≤ 1048576) := by
  unfold laws_szEventS.f maxLen at *
  split
  · exact ⟨_, rfl, fun h => absurd (by decide) h⟩
  · next h => refine ⟨_, rfl, fun _ => ?_⟩; unfold wrap64 at h; omega

/-- The shell of a law over a log: both sides answer alike. -/
theorem mapEv_len {l : List S52} (h : l.length ≤ 1048576) : (l.map cvEvent).length ≤ 1048576 := by rw [List.length_map]; exact h

theorem pure_holds : PureOf := by
  intro l hl
  refine Ev.rounds (g := fun k => laws_FnExactLogSum.f k l) ?_
  unfold laws_FnExactLogSum.f
  obtain ⟨t, ht, hs⟩ := szEventS_small l hl.1
  simp only [ht, Option.bind_some]
  refine ite (fun h => ev rfl) (fun h => ?_)
  have hb := hs h
  have hb2 := mapEv_len hb
  obtain ⟨r, h1, h2⟩ := logSum_key _ hb2
  have he := eqEventS_ev _ (show (l.map cvEvent).length ≤ 9223372036854775807 by omega)
  repeat' (first | exact ev rfl | (refine ite (fun h => absurd h (by omega)) (fun _ => ?_)) | (refine ite (fun _ => ?_) (fun h => absurd rfl h)) | refine bnd (toEventS_ev l hb) ?_ | refine bnd (h1) ?_ | refine bnd (h2) ?_ | refine bnd (he) ?_ | simp only [laws_FnExactLogSum.f, if_true, bne_self_eq_false, Bool.false_eq_true, if_false, Option.bind_some, Bool.not_true, Bool.not_false] | (refine sh 1 ?_; simp only [laws_FnExactLogSum.f, if_true, bne_self_eq_false, Bool.false_eq_true, if_false, Option.bind_some, Bool.not_true, Bool.not_false]))

end Go.Proofs.Ytladnbmemohekaa.PFnExactLogSum
