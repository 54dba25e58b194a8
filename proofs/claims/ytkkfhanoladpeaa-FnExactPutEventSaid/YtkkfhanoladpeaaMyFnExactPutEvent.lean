/- The pure statement of FnExactPutEvent: the program's PutEvent answers what the reference's answers, for every input, in new memory. -/
import Derived.Test.YtkkfhanoladpeaaPFnExactPutEventx0
import Derived.Test.YtkkfhanoladpeaaPFnExactPutEventx1
import Derived.Test.YtkkfhanoladpeaaPFnExactPutEventx2
import Derived.Test.YtkkfhanoladpeaaPFnExactPutEventx3
import Derived.Test.YtkkfhanoladpeaaAid
import Derived.Test.YtkkfhanoladpeaaGFnExactPutEvent
namespace Go.Proofs.Ytkkfhanoladpeaa.PFnExactPutEvent
open Go.RowKit Go.Proofs.YtkkfhanoladpeaaW.PrintWords Go.Proofs.YtkkfhanoladpeaaW.PrintLast Go.Proofs.Ytkkfhanoladpeaa.Opn Go.Proofs.Ytkkfhanoladpeaa.Aid
set_option linter.unusedVariables false
set_option linter.unusedSimpArgs false

def PureOf : Prop := ∀ (a0_0 : Int) (a0_1 : Int) (a0_2 : Int), I64 a0_0 → I64 a0_1 → I64 a0_2 → ∃ k, laws_FnExactPutEvent.f k a0_0 a0_1 a0_2 = some true
theorem l01In_eq (a b c : Int) : spec_l01In.f a b c = some (decide (b ≤ a ∧ a ≤ c)) := by
  unfold spec_l01In.f; split <;> simp [*]
theorem in_eq (a b c : Int) : impl_in.f a b c = some (decide (b ≤ a ∧ a ≤ c)) := by
  unfold impl_in.f; split
  · simp_all
  · next h => simp; omega

theorem spec_TickOk_eq (a : Int) : spec_TickOk.f a = some (decide (0 ≤ a ∧ a ≤ 1000000000)) := by
  unfold spec_TickOk.f; rw [l01In_eq]; rfl

theorem impl_TickOk_eq (a : Int) : impl_TickOk.f a = some (decide (0 ≤ a ∧ a ≤ 1000000000)) := by
  unfold impl_TickOk.f; rw [in_eq]; rfl

/-- A number's bytes: groups of seven bits, the lowest first. -/
def putB : Nat → Int → List Int
  | 0, x => [x]
  | n + 1, x => if 128 ≤ x then (x % 128 + 128) :: putB n (x / 128) else [x]
def putN (x : Int) : List Int := putB 4 x
theorem putB_length : ∀ n x, 1 ≤ (putB n x).length ∧ (putB n x).length ≤ n + 1
  | 0, x => by simp [putB]
  | n + 1, x => by
    have := putB_length n (x / 128)
    unfold putB; split <;> simp <;> omega
theorem spec_Put_loop : ∀ (n : Nat) (x : Int) (acc : List Int), 0 ≤ x → x < 128 * 128 ^ n → x ≤ 1000000000 → acc.length + n ≤ 1000 → Ev (fun k => spec_PutNumber.l0 k x acc) (acc ++ putB n x) := by
  intro n
  induction n with
  | zero =>
    intro x acc h0 h1 _ ha
    refine sh 1 ?_
    simp only [spec_PutNumber.l0, if_neg (show ¬ x ≥ 128 by omega), if_pos (show acc.length < 140737488355328 by omega)]
    exact ev (by rw [Int.emod_eq_of_lt h0 (by omega)]; rfl)
  | succ n ih =>
    intro x acc h0 h1 h2 ha
    refine sh 1 ?_
    simp only [spec_PutNumber.l0, if_pos (show acc.length < 140737488355328 by omega)]
    rw [putB]
    refine ite (fun h => ?_) (fun h => ?_)
    · rw [if_pos h, Int.tdiv_eq_ediv_of_nonneg h0, Int.tmod_eq_emod_of_nonneg h0, wid (x := x / 128) (by omega) (by omega), wid (x := 128 + x % 128) (by omega) (by omega), show (128 + x % 128) % 256 = x % 128 + 128 by omega]
      have hp : x / 128 < 128 * 128 ^ n := by
        rw [Int.pow_succ] at h1
        generalize (128 : Int) ^ n = z at h1 ⊢
        omega
      refine eqv (ih (x / 128) (acc ++ [x % 128 + 128]) (by omega) hp (by omega) (by simp; omega)) ?_
      simp
    · rw [if_neg h]
      exact ev (by rw [Int.emod_eq_of_lt h0 (by omega)])
theorem spec_PutNumber_ev (x : Int) (h0 : 0 ≤ x) (h1 : x ≤ 1000000000) : Ev (fun k => spec_PutNumber.f k x) (putN x) := by
  unfold spec_PutNumber.f
  simp only [spec_TickOk_eq, Option.bind_some, decide_eq_true_eq, if_pos (show 0 ≤ x ∧ x ≤ 1000000000 from ⟨h0, h1⟩)]
  exact eqv (spec_Put_loop 4 x [] h0 (by omega) h1 (by simp)) rfl
theorem spec_PutNumber_no (x : Int) (h : ¬ (0 ≤ x ∧ x ≤ 1000000000)) : Ev (fun k => spec_PutNumber.f k x) [] := by
  unfold spec_PutNumber.f
  simp only [spec_TickOk_eq, Option.bind_some, decide_eq_true_eq, if_neg h]
  exact ev rfl

theorem impl_Put_loop : ∀ (n : Nat) (x : Int) (acc : List Int), 0 ≤ x → x < 128 * 128 ^ n → x ≤ 1000000000 → acc.length + n ≤ 1000 → Ev (fun k => impl_PutNumber.l0 k x acc) (acc ++ putB n x) := by
  intro n
  induction n with
  | zero =>
    intro x acc h0 h1 _ ha
    refine sh 1 ?_
    simp only [impl_PutNumber.l0, if_neg (show ¬ x ≥ 128 by omega), if_pos (show acc.length < 140737488355328 by omega)]
    exact ev (by rw [Int.emod_eq_of_lt h0 (by omega)]; rfl)
  | succ n ih =>
    intro x acc h0 h1 h2 ha
    refine sh 1 ?_
    simp only [impl_PutNumber.l0, if_pos (show acc.length < 140737488355328 by omega)]
    rw [putB]
    refine ite (fun h => ?_) (fun h => ?_)
    · rw [if_pos h, Int.tdiv_eq_ediv_of_nonneg h0, Int.tmod_eq_emod_of_nonneg h0, wid (x := x / 128) (by omega) (by omega), wid (x := x % 128 + 128) (by omega) (by omega), show (x % 128 + 128) % 256 = x % 128 + 128 by omega]
      have hp : x / 128 < 128 * 128 ^ n := by
        rw [Int.pow_succ] at h1
        generalize (128 : Int) ^ n = z at h1 ⊢
        omega
      refine eqv (ih (x / 128) (acc ++ [x % 128 + 128]) (by omega) hp (by omega) (by simp; omega)) ?_
      simp
    · rw [if_neg h]
      exact ev (by rw [Int.emod_eq_of_lt h0 (by omega)])
theorem impl_PutNumber_ev (x : Int) (h0 : 0 ≤ x) (h1 : x ≤ 1000000000) : Ev (fun k => impl_PutNumber.f k x) (putN x) := by
  unfold impl_PutNumber.f
  simp only [impl_TickOk_eq, Option.bind_some, decide_eq_true_eq, if_pos (show 0 ≤ x ∧ x ≤ 1000000000 from ⟨h0, h1⟩)]
  exact eqv (impl_Put_loop 4 x [] h0 (by omega) h1 (by simp)) rfl
theorem impl_PutNumber_no (x : Int) (h : ¬ (0 ≤ x ∧ x ≤ 1000000000)) : Ev (fun k => impl_PutNumber.f k x) [] := by
  unfold impl_PutNumber.f
  simp only [impl_TickOk_eq, Option.bind_some, decide_eq_true_eq, if_neg h]
  exact ev rfl

theorem l01Bytes_loop (l : List Int) (hl : l.length ≤ 1048576) : ∀ n, n ≤ l.length → ∀ acc : List Int, acc.length ≤ n → Ev (fun k => spec_l01Bytes.l0 k l acc (n : Int)) (acc ++ l.drop n) := by
  refine down ?_ ?_
  · intro acc ha
    refine sh 1 ?_
    simp only [spec_l01Bytes.l0, Int.lt_irrefl, if_false]
    exact ev (by simp)
  · intro n hn ih acc ha
    refine sh 1 ?_
    simp only [spec_l01Bytes.l0, lt_cast hn, Int.natCast_nonneg, if_true, wsucc hn (show l.length ≤ 9223372036854775807 by omega), rd_get hn, if_pos (show acc.length < 140737488355328 by omega)]
    refine eqv (ih (acc ++ [l[n]]) (by simp; omega)) ?_
    rw [drop_cons hn, List.append_assoc]; rfl
theorem l01Bytes_ev (l : List Int) (hl : l.length ≤ 1048576) : Ev (fun k => spec_l01Bytes.f k l) l := by
  unfold spec_l01Bytes.f
  exact eqv (l01Bytes_loop l hl 0 (Nat.zero_le _) [] (by simp)) (by simp)
theorem l01Join_loop (B : Nat) (hB : B ≤ 1048576) (l : List Int) (hl : l.length ≤ 1048576) : ∀ n, n ≤ l.length → ∀ acc : List Int, acc.length ≤ n + B → Ev (fun k => spec_l01Join.l0 k l acc (n : Int)) (acc ++ l.drop n) := by
  refine down ?_ ?_
  · intro acc ha
    refine sh 1 ?_
    simp only [spec_l01Join.l0, Int.lt_irrefl, if_false]
    exact ev (by simp)
  · intro n hn ih acc ha
    refine sh 1 ?_
    simp only [spec_l01Join.l0, lt_cast hn, Int.natCast_nonneg, if_true, wsucc hn (show l.length ≤ 9223372036854775807 by omega), rd_get hn, if_pos (show acc.length < 140737488355328 by omega)]
    refine eqv (ih (acc ++ [l[n]]) (by simp; omega)) ?_
    rw [drop_cons hn, List.append_assoc]; rfl
theorem l01Join_ev (a l : List Int) (ha : a.length ≤ 1048576) (hl : l.length ≤ 1048576) : Ev (fun k => spec_l01Join.f k a l) (a ++ l) := by
  unfold spec_l01Join.f
  refine bnd (l01Bytes_ev a ha) ?_
  exact eqv (l01Join_loop a.length ha l hl 0 (Nat.zero_le _) a (by omega)) (by simp)

def EvPut (a b c : Int) : Prop := (0 ≤ a ∧ a ≤ 11) ∧ (0 ≤ b ∧ b ≤ 1000000000) ∧ (0 ≤ c ∧ c ≤ 1000000000)
instance (a b c : Int) : Decidable (EvPut a b c) := by unfold EvPut; infer_instance
def putE (a b c : Int) : List Int := a :: (putN b ++ putN c)
def putEo (a b c : Int) : List Int := if EvPut a b c then putE a b c else []
theorem putN_length (x : Int) : 1 ≤ (putN x).length ∧ (putN x).length ≤ 5 := putB_length 4 x
theorem putE_length (a b c : Int) : 3 ≤ (putE a b c).length ∧ (putE a b c).length ≤ 11 := by
  have := putN_length b; have := putN_length c; unfold putE; simp; omega
theorem spec_PutEvent_ev (a b c : Int) : Ev (fun k => spec_PutEvent.f k a b c) (putEo a b c) := by
  unfold spec_PutEvent.f putEo
  have hb := putN_length b; have hc := putN_length c
  refine sh 1 ?_
  simp only [l01In_eq, spec_TickOk_eq, spec_PutEvent.j0, Option.bind_some, decide_eq_true_eq, Bool.not_eq_true', Bool.not_eq_true, decide_eq_false_iff_not, beq_iff_eq, bne_iff_ne, ne_eq, Bool.false_eq_true, Bool.true_eq_false, eq_self_iff_true, if_true, if_false, reduceIte, not_true_eq_false, not_false_eq_true]
  refine ite (fun h1 => ite (fun h2 => ite (fun h3 => ?_) (fun h3 => ?_)) (fun h2 => ?_)) (fun h1 => ?_)
  · exact ev (by rw [if_neg]; unfold EvPut; omega)
  · rw [if_pos (by unfold EvPut; omega)]
    refine bnd (spec_PutNumber_ev b h2.1 h2.2) ?_
    refine bnd (l01Join_ev _ _ (by simp) (by omega)) ?_
    refine bnd (spec_PutNumber_ev c (by omega) (by omega)) ?_
    refine bnd (l01Join_ev _ _ (by simp; omega) (by omega)) ?_
    refine ev ?_
    rw [Int.emod_eq_of_lt (by omega) (by omega)]; simp [putE]
  · exact ev (by rw [if_neg]; unfold EvPut; omega)
  · exact ev (by rw [if_neg]; unfold EvPut; omega)
theorem impl_PutEvent_ev (a b c : Int) : Ev (fun k => impl_PutEvent.f k a b c) (putEo a b c) := by
  unfold impl_PutEvent.f putEo
  have hb := putN_length b; have hc := putN_length c
  refine sh 1 ?_
  simp only [in_eq, impl_TickOk_eq, impl_PutEvent.j0, Option.bind_some, decide_eq_true_eq, Bool.not_eq_true', Bool.not_eq_true, decide_eq_false_iff_not, beq_iff_eq, bne_iff_ne, ne_eq, Bool.false_eq_true, Bool.true_eq_false, eq_self_iff_true, if_true, if_false, reduceIte, not_true_eq_false, not_false_eq_true]
  refine ite (fun h1 => ite (fun h2 => ite (fun h3 => ?_) (fun h3 => ?_)) (fun h2 => ?_)) (fun h1 => ?_)
  · exact ev (by rw [if_neg]; unfold EvPut; omega)
  · rw [if_pos (by unfold EvPut; omega)]
    refine bnd (impl_PutNumber_ev b h2.1 h2.2) ?_
    refine ite (fun _ => ?_) (fun h => by exfalso; apply h; simp only [List.length_cons, List.length_nil]; omega)
    refine bnd (impl_PutNumber_ev c (by omega) (by omega)) ?_
    refine ite (fun _ => ?_) (fun h => by exfalso; apply h; simp only [List.length_append, List.length_cons, List.length_nil]; omega)
    refine ev ?_
    rw [Int.emod_eq_of_lt (by omega) (by omega)]; simp [putE]
  · exact ev (by rw [if_neg]; unfold EvPut; omega)
  · exact ev (by rw [if_neg]; unfold EvPut; omega)
theorem putEo_length (a b c : Int) : (putEo a b c).length ≤ 11 := by
  unfold putEo; split
  · exact (putE_length a b c).2
  · simp

theorem eqByteS_loop (l : List Int) (hl : l.length ≤ 9223372036854775807) : ∀ n, n ≤ l.length → Ev (fun k => laws_eqByteS.l0 k l l (n : Int)) true := by
  refine down ?_ ?_
  · refine sh 1 ?_
    simp only [laws_eqByteS.l0, Int.lt_irrefl, if_false]
    exact ev rfl
  · intro n hn ih
    refine sh 1 ?_
    simp only [laws_eqByteS.l0, lt_cast hn, Int.natCast_nonneg, if_true, wsucc hn hl]
    exact ih
theorem eqByteS_ev (l : List Int) (hl : l.length ≤ 9223372036854775807) : Ev (fun k => laws_eqByteS.f k l l) true := by
  unfold laws_eqByteS.f
  simp only [if_true]
  exact eqByteS_loop l hl 0 (Nat.zero_le _)

def mkByte (v : Int) : Int := (v % 256)
theorem markByteS_loop (L : Nat) (hL : L ≤ 1099511627776) : ∀ n, n ≤ L → ∀ (acc : List Int) (v : Int), acc.length = L → 0 ≤ v → v + (L - n : Nat) ≤ 4611686018427387904 →
    Ev (fun k => laws_markByteS.l0 k acc v (n : Int)) (v + (L - n : Nat), acc.take n ++ mkG mkByte 1 v (L - n)) := by
  refine down ?_ ?_
  · intro acc v ha h0 hv
    refine sh 1 ?_
    simp only [laws_markByteS.l0, ha, Int.lt_irrefl, if_false]
    exact ev (by simp [mkG, ← ha])
  · intro n hn ih acc v ha h0 hv
    refine sh 1 ?_
    have hd : L - n = (L - (n + 1)) + 1 := by omega
    have e1 : wrap64 (v + 1) = v + 1 := wid (by omega) (by omega)
    simp only [laws_markByteS.l0, ha, lt_cast hn, Int.natCast_nonneg, if_true, wsucc hn (show L ≤ 9223372036854775807 by omega), Int.toNat_natCast, e1]
    refine eqv (ih (acc.set n (mkByte v)) (v + 1) (by simp [ha]) (by omega) (by omega)) ?_
    rw [take_set (by omega), hd, mkG]
    simp only [List.append_assoc, List.cons_append, List.nil_append, Prod.mk.injEq, and_true]
    omega
theorem heldByteS_loop (L : Nat) (l : List Int) (hl : l.length = L) (hL : L ≤ 1099511627776) : ∀ n, n ≤ L → ∀ v : Int, 0 ≤ v → v + (L - n : Nat) ≤ 4611686018427387904 → l.drop n = mkG mkByte 1 v (L - n) →
    Ev (fun k => laws_heldByteS.l0 k l v (n : Int)) (v + (L - n : Nat)) := by
  refine down ?_ ?_
  · intro v h0 hv _
    refine sh 1 ?_
    simp only [laws_heldByteS.l0, hl, Int.lt_irrefl, if_false]
    exact ev (by simp)
  · intro n hn ih v h0 hv hd
    refine sh 1 ?_
    have hd2 : L - n = (L - (n + 1)) + 1 := by omega
    rw [hd2, mkG] at hd
    obtain ⟨hn2, hg, hdr⟩ := get_of_drop hd
    have e1 : wrap64 (v + 1) = v + 1 := wid (by omega) (by omega)
    simp only [laws_heldByteS.l0, hl, lt_cast hn, Int.natCast_nonneg, if_true, wsucc hn (show L ≤ 9223372036854775807 by omega), rd_get hn2, hg, mkByte, e1]
    refine eqv (ih (v + 1) (by omega) (by omega) hdr) ?_
    omega
theorem markByteS_ev (l : List Int) (v : Int) (hl : l.length ≤ 1099511627776) (h0 : 0 ≤ v) (h1 : v ≤ 1152921504606846976) : Ev (fun k => laws_markByteS.f k l v) (v + l.length, mkG mkByte 1 v l.length) := by
  unfold laws_markByteS.f
  refine eqv (markByteS_loop l.length hl 0 (Nat.zero_le _) l v rfl h0 (by omega)) ?_
  simp
theorem heldByteS_ev (L : Nat) (v : Int) (hl : L ≤ 1099511627776) (h0 : 0 ≤ v) (h1 : v ≤ 1152921504606846976) : Ev (fun k => laws_heldByteS.f k (mkG mkByte 1 v L) v) (v + L) := by
  unfold laws_heldByteS.f
  refine eqv (heldByteS_loop L _ (mkG_length _ _ _ _) hl 0 (Nat.zero_le _) v h0 (by omega) (by simp)) ?_
  simp

theorem pure_holds : PureOf := by
  intro a b c _ _ _
  refine Ev.rounds (g := fun k => laws_FnExactPutEvent.f k a b c) ?_
  simp only [laws_FnExactPutEvent.f, laws_toEvent.f, Option.bind_some]
  have hr := putEo_length a b c
  have h1 := spec_PutEvent_ev a b c
  have h2 := impl_PutEvent_ev a b c
  generalize putEo a b c = r at hr h1 h2
  refine bnd h1 (bnd h2 (bnd (eqByteS_ev r (by omega)) ?_))
  simp only [if_true]
  refine bnd (markByteS_ev r 1 (by omega) (by omega) (by omega)) ?_
  simp only
  refine bnd (heldByteS_ev r.length 1 (by omega) (by omega) (by omega)) ?_
  simp only [if_neg (show ¬ (1 + (r.length : Int) < 0) by omega), if_true]
  refine bnd h2 (bnd (eqByteS_ev r (by omega)) ?_)
  simp only [if_true]
  refine bnd (heldByteS_ev r.length 1 (by omega) (by omega) (by omega)) ?_
  simp only [if_neg (show ¬ (1 + (r.length : Int) < 0) by omega), if_true]
  exact ev rfl

end Go.Proofs.Ytkkfhanoladpeaa.PFnExactPutEvent
