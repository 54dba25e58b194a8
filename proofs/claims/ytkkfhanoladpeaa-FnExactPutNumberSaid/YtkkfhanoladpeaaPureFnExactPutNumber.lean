/- The pure statement of FnExactPutNumber: the program's PutNumber answers what the reference's answers, for every input, in new memory. -/
import Derived.Test.YtkkfhanoladpeaaPFnExactPutNumberx0
import Derived.Test.YtkkfhanoladpeaaPFnExactPutNumberx1
import Derived.Test.YtkkfhanoladpeaaAid
namespace Go.Proofs.Ytkkfhanoladpeaa.PFnExactPutNumber
open Go.RowKit Go.Proofs.YtkkfhanoladpeaaW.PrintWords Go.Proofs.YtkkfhanoladpeaaW.PrintLast Go.Proofs.Ytkkfhanoladpeaa.Opn Go.Proofs.Ytkkfhanoladpeaa.Aid
set_option linter.unusedVariables false
set_option linter.unusedSimpArgs false

theorem l01In_eq (a b c : Int) : spec_l01In.f a b c = some (decide (b ≤ a ∧ a ≤ c)) := by
  unfold spec_l01In.f; split <;> simp [*]
theorem in_eq (a b c : Int) : impl_in.f a b c = some (decide (b ≤ a ∧ a ≤ c)) := by
  unfold impl_in.f; split
  · simp_all
  · next h => simp; omega

theorem spec_TickOk_eq (a : Int) : spec_TickOk.f a = some (decide (0 ≤ a ∧ a ≤ 1000000000)) := by
  unfold spec_TickOk.f; rw [l01In_eq]; rfl

/-- A number's bytes: groups of seven bits, the lowest first. -/
def putB : Nat → Int → List Int
  | 0, x => [x]
  | n + 1, x => if 128 ≤ x then (x % 128 + 128) :: putB n (x / 128) else [x]
def putN (x : Int) : List Int := putB 4 x
theorem putB_length : ∀ n x, 1 ≤ (putB n x).length ∧ (putB n x).length ≤ n + 1
  | 0, x => by simp [putB]
  | n + 1, x => by
    have := putB_length n (x / 128)
    unfold putB; split <;> simp <;> omega
theorem spec_Put_loop : ∀ (n : Nat) (x : Int) (acc : List Int), 0 ≤ x → x < 128 * 128 ^ n → x ≤ 1000000000 → acc.length + n ≤ 1000 → Ev (fun k => spec_PutNumber.l0 k x acc) (acc ++ putB n x) := by
  intro n
  induction n with
  | zero =>
    intro x acc h0 h1 _ ha
    refine sh 1 ?_
    simp only [spec_PutNumber.l0, if_neg (show ¬ x ≥ 128 by omega), if_pos (show acc.length < 140737488355328 by omega)]
    exact ev (by rw [Int.emod_eq_of_lt h0 (by omega)]; rfl)
  | succ n ih =>
    intro x acc h0 h1 h2 ha
    refine sh 1 ?_
    simp only [spec_PutNumber.l0, if_pos (show acc.length < 140737488355328 by omega)]
    rw [putB]
    refine ite (fun h => ?_) (fun h => ?_)
    · rw [if_pos h, Int.tdiv_eq_ediv_of_nonneg h0, Int.tmod_eq_emod_of_nonneg h0, wid (x := x / 128) (by omega) (by omega), wid (x := 128 + x % 128) (by omega) (by omega), show (128 + x % 128) % 256 = x % 128 + 128 by omega]
      have hp : x / 128 < 128 * 128 ^ n := by
        rw [Int.pow_succ] at h1
        generalize (128 : Int) ^ n = z at h1 ⊢
        omega
      refine eqv (ih (x / 128) (acc ++ [x % 128 + 128]) (by omega) hp (by omega) (by simp; omega)) ?_
      simp
    · rw [if_neg h]
      exact ev (by rw [Int.emod_eq_of_lt h0 (by omega)])
theorem spec_PutNumber_ev (x : Int) (h0 : 0 ≤ x) (h1 : x ≤ 1000000000) : Ev (fun k => spec_PutNumber.f k x) (putN x) := by
  unfold spec_PutNumber.f
  simp only [spec_TickOk_eq, Option.bind_some, decide_eq_true_eq, if_pos (show 0 ≤ x ∧ x ≤ 1000000000 from ⟨h0, h1⟩)]
  exact eqv (spec_Put_loop 4 x [] h0 (by omega) h1 (by simp)) rfl
theorem spec_PutNumber_no (x : Int) (h : ¬ (0 ≤ x ∧ x ≤ 1000000000)) : Ev (fun k => spec_PutNumber.f k x) [] := by
  unfold spec_PutNumber.f
  simp only [spec_TickOk_eq, Option.bind_some, decide_eq_true_eq, if_neg h]
  exact ev rfl

theorem impl_TickOk_eq (a : Int) : impl_TickOk.f a = some (decide (0 ≤ a ∧ a ≤ 1000000000)) := by
  unfold impl_TickOk.f; rw [in_eq]; rfl

theorem impl_Put_loop : ∀ (n : Nat) (x : Int) (acc : List Int), 0 ≤ x → x < 128 * 128 ^ n → x ≤ 1000000000 → acc.length + n ≤ 1000 → Ev (fun k => impl_PutNumber.l0 k x acc) (acc ++ putB n x) := by
  intro n
  induction n with
  | zero =>
    intro x acc h0 h1 _ ha
    refine sh 1 ?_
    simp only [impl_PutNumber.l0, if_neg (show ¬ x ≥ 128 by omega), if_pos (show acc.length < 140737488355328 by omega)]
    exact ev (by rw [Int.emod_eq_of_lt h0 (by omega)]; rfl)
  | succ n ih =>
    intro x acc h0 h1 h2 ha
    refine sh 1 ?_
    simp only [impl_PutNumber.l0, if_pos (show acc.length < 140737488355328 by omega)]
    rw [putB]
    refine ite (fun h => ?_) (fun h => ?_)
    · rw [if_pos h, Int.tdiv_eq_ediv_of_nonneg h0, Int.tmod_eq_emod_of_nonneg h0, wid (x := x / 128) (by omega) (by omega), wid (x := x % 128 + 128) (by omega) (by omega), show (x % 128 + 128) % 256 = x % 128 + 128 by omega]
      have hp : x / 128 < 128 * 128 ^ n := by
        rw [Int.pow_succ] at h1
        generalize (128 : Int) ^ n = z at h1 ⊢
        omega
      refine eqv (ih (x / 128) (acc ++ [x % 128 + 128]) (by omega) hp (by omega) (by simp; omega)) ?_
      simp
    · rw [if_neg h]
      exact ev (by rw [Int.emod_eq_of_lt h0 (by omega)])
theorem impl_PutNumber_ev (x : Int) (h0 : 0 ≤ x) (h1 : x ≤ 1000000000) : Ev (fun k => impl_PutNumber.f k x) (putN x) := by
  unfold impl_PutNumber.f
  simp only [impl_TickOk_eq, Option.bind_some, decide_eq_true_eq, if_pos (show 0 ≤ x ∧ x ≤ 1000000000 from ⟨h0, h1⟩)]
  exact eqv (impl_Put_loop 4 x [] h0 (by omega) h1 (by simp)) rfl
theorem impl_PutNumber_no (x : Int) (h : ¬ (0 ≤ x ∧ x ≤ 1000000000)) : Ev (fun k => impl_PutNumber.f k x) [] := by
  unfold impl_PutNumber.f
  simp only [impl_TickOk_eq, Option.bind_some, decide_eq_true_eq, if_neg h]
  exact ev rfl

theorem eqByteS_loop (l : List Int) (hl : l.length ≤ 9223372036854775807) : ∀ n, n ≤ l.length → Ev (fun k => laws_eqByteS.l0 k l l (n : Int)) true := by
  refine down ?_ ?_
  · refine sh 1 ?_
    simp only [laws_eqByteS.l0, Int.lt_irrefl, if_false]
    exact ev rfl
  · intro n hn ih
    refine sh 1 ?_
    simp only [laws_eqByteS.l0, lt_cast hn, Int.natCast_nonneg, if_true, wsucc hn hl]
    exact ih
theorem eqByteS_ev (l : List Int) (hl : l.length ≤ 9223372036854775807) : Ev (fun k => laws_eqByteS.f k l l) true := by
  unfold laws_eqByteS.f
  simp only [if_true]
  exact eqByteS_loop l hl 0 (Nat.zero_le _)

def mkByte (v : Int) : Int := (v % 256)
theorem markByteS_loop (L : Nat) (hL : L ≤ 1099511627776) : ∀ n, n ≤ L → ∀ (acc : List Int) (v : Int), acc.length = L → 0 ≤ v → v + (L - n : Nat) ≤ 4611686018427387904 →
    Ev (fun k => laws_markByteS.l0 k acc v (n : Int)) (v + (L - n : Nat), acc.take n ++ mkG mkByte 1 v (L - n)) := by
  refine down ?_ ?_
  · intro acc v ha h0 hv
    refine sh 1 ?_
    simp only [laws_markByteS.l0, ha, Int.lt_irrefl, if_false]
    exact ev (by simp [mkG, ← ha])
  · intro n hn ih acc v ha h0 hv
    refine sh 1 ?_
    have hd : L - n = (L - (n + 1)) + 1 := by omega
    have e1 : wrap64 (v + 1) = v + 1 := wid (by omega) (by omega)
    simp only [laws_markByteS.l0, ha, lt_cast hn, Int.natCast_nonneg, if_true, wsucc hn (show L ≤ 9223372036854775807 by omega), Int.toNat_natCast, e1]
    refine eqv (ih (acc.set n (mkByte v)) (v + 1) (by simp [ha]) (by omega) (by omega)) ?_
    rw [take_set (by omega), hd, mkG]
    simp only [List.append_assoc, List.cons_append, List.nil_append, Prod.mk.injEq, and_true]
    omega
theorem heldByteS_loop (L : Nat) (l : List Int) (hl : l.length = L) (hL : L ≤ 1099511627776) : ∀ n, n ≤ L → ∀ v : Int, 0 ≤ v → v + (L - n : Nat) ≤ 4611686018427387904 → l.drop n = mkG mkByte 1 v (L - n) →
    Ev (fun k => laws_heldByteS.l0 k l v (n : Int)) (v + (L - n : Nat)) := by
  refine down ?_ ?_
  · intro v h0 hv _
    refine sh 1 ?_
    simp only [laws_heldByteS.l0, hl, Int.lt_irrefl, if_false]
    exact ev (by simp)
  · intro n hn ih v h0 hv hd
    refine sh 1 ?_
    have hd2 : L - n = (L - (n + 1)) + 1 := by omega
    rw [hd2, mkG] at hd
    obtain ⟨hn2, hg, hdr⟩ := get_of_drop hd
    have e1 : wrap64 (v + 1) = v + 1 := wid (by omega) (by omega)
    simp only [laws_heldByteS.l0, hl, lt_cast hn, Int.natCast_nonneg, if_true, wsucc hn (show L ≤ 9223372036854775807 by omega), rd_get hn2, hg, mkByte, e1]
    refine eqv (ih (v + 1) (by omega) (by omega) hdr) ?_
    omega
theorem markByteS_ev (l : List Int) (v : Int) (hl : l.length ≤ 1099511627776) (h0 : 0 ≤ v) (h1 : v ≤ 1152921504606846976) : Ev (fun k => laws_markByteS.f k l v) (v + l.length, mkG mkByte 1 v l.length) := by
  unfold laws_markByteS.f
  refine eqv (markByteS_loop l.length hl 0 (Nat.zero_le _) l v rfl h0 (by omega)) ?_
  simp
theorem heldByteS_ev (L : Nat) (v : Int) (hl : L ≤ 1099511627776) (h0 : 0 ≤ v) (h1 : v ≤ 1152921504606846976) : Ev (fun k => laws_heldByteS.f k (mkG mkByte 1 v L) v) (v + L) := by
  unfold laws_heldByteS.f
  refine eqv (heldByteS_loop L _ (mkG_length _ _ _ _) hl 0 (Nat.zero_le _) v h0 (by omega) (by simp)) ?_
  simp

theorem pure_holds : laws_FnExactPutNumber.Pure := by
  intro x _
  refine Ev.rounds (g := fun k => laws_FnExactPutNumber.f k x) ?_
  unfold laws_FnExactPutNumber.f
  have key : ∃ r : List Int, r.length ≤ 100 ∧ Ev (fun k => spec_PutNumber.f k x) r ∧ Ev (fun k => impl_PutNumber.f k x) r := by
    by_cases h : 0 ≤ x ∧ x ≤ 1000000000
    · exact ⟨putN x, by have := putB_length 4 x; unfold putN; omega, spec_PutNumber_ev x h.1 h.2, impl_PutNumber_ev x h.1 h.2⟩
    · exact ⟨[], by simp, spec_PutNumber_no x h, impl_PutNumber_no x h⟩
  obtain ⟨r, hr, h1, h2⟩ := key
  refine bnd h1 (bnd h2 (bnd (eqByteS_ev r (by omega)) ?_))
  simp only [if_true]
  refine bnd (markByteS_ev r 1 (by omega) (by omega) (by omega)) ?_
  simp only
  refine bnd (heldByteS_ev r.length 1 (by omega) (by omega) (by omega)) ?_
  simp only [if_neg (show ¬ (1 + (r.length : Int) < 0) by omega), if_true]
  refine bnd h2 (bnd (eqByteS_ev r (by omega)) ?_)
  simp only [if_true]
  refine bnd (heldByteS_ev r.length 1 (by omega) (by omega) (by omega)) ?_
  simp only [if_neg (show ¬ (1 + (r.length : Int) < 0) by omega), if_true]
  exact ev rfl

end Go.Proofs.Ytkkfhanoladpeaa.PFnExactPutNumber
namespace Go.Proofs.Ytkkfhanoladpeaa.Pure
open Go.Proofs.Ytkkfhanoladpeaa.PFnExactPutNumber
theorem FnExactPutNumber : laws_FnExactPutNumber.Pure := Go.Proofs.Ytkkfhanoladpeaa.PFnExactPutNumber.pure_holds
end Go.Proofs.Ytkkfhanoladpeaa.Pure
