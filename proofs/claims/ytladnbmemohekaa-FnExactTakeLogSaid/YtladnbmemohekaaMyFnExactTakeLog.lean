/- The pure statement of FnExactTakeLog: the program's TakeLog answers what the reference's answers, for every input, in new memory. -/
import Derived.Test.YtladnbmemohekaaPFnExactTakeLogx0
import Derived.Test.YtladnbmemohekaaPFnExactTakeLogx1
import Derived.Test.YtladnbmemohekaaPFnExactTakeLogx2
import Derived.Test.YtladnbmemohekaaPFnExactTakeLogx3
import Derived.Test.YtladnbmemohekaaPFnExactTakeLogx4
import Derived.Test.YtladnbmemohekaaAid
import Derived.Test.YtladnbmemohekaaGFnExactTakeLog
namespace Go.Proofs.Ytladnbmemohekaa.PFnExactTakeLog
open Go.RowKit Go.Proofs.YtladnbmemohekaaW.PrintWords Go.Proofs.YtladnbmemohekaaW.PrintLast Go.Proofs.Ytladnbmemohekaa.Opn Go.Proofs.Ytladnbmemohekaa.Aid
set_option linter.unusedVariables false
set_option linter.unusedSimpArgs false

def PureOf : Prop := ∀ (l0 : List Int), (l0.length ≤ maxLen ∧ ∀ y2 ∈ l0, U8 y2) → ∃ k, laws_FnExactTakeLog.f k l0 = some true
theorem l01In_eq (a b c : Int) : spec_l01In.f a b c = some (decide (b ≤ a ∧ a ≤ c)) := by
  unfold spec_l01In.f; split <;> simp [*]
theorem in_eq (a b c : Int) : impl_in.f a b c = some (decide (b ≤ a ∧ a ≤ c)) := by
  unfold impl_in.f; split
  · simp_all
  · next h => simp; omega

theorem spec_TickOk_eq (a : Int) : spec_TickOk.f a = some (decide (0 ≤ a ∧ a ≤ 1000000000)) := by
  unfold spec_TickOk.f; rw [l01In_eq]; rfl

theorem impl_TickOk_eq (a : Int) : impl_TickOk.f a = some (decide (0 ≤ a ∧ a ≤ 1000000000)) := by
  unfold impl_TickOk.f; rw [in_eq]; rfl

/-- A number out of bytes: what is read and how many bytes it takes; c: how many were read so far, s: what the next group counts. -/
def dec : Nat → Nat → Int → Int → List Int → Option (Int × Nat)
  | 0, _, _, _, _ => none
  | _ + 1, _, _, _, [] => none
  | m + 1, c, s, x, v :: bs => if v < 128 then (if (v = 0 ∧ 0 < c) ∨ ¬ (x + v * s ≤ 1000000000) then none else some (x + v * s, c + 1)) else dec m (c + 1) (s * 128) (x + (v % 128) * s) bs
def outN (p : Nat) : Option (Int × Nat) → Int × Int
  | none => (0, -1)
  | some (x, c) => (x, (p + c : Nat))
def takeN (b : List Int) (at_ : Int) : Int × Int := if at_ < 0 then (0, -1) else if (b.length : Int) ≤ at_ then (0, -1) else outN at_.toNat (dec 5 0 1 0 (b.drop at_.toNat))
theorem drop_case {b : List Int} {n : Nat} (hn : n ≤ b.length) : (b.drop n = [] ∧ n = b.length) ∨ ∃ (h : n < b.length), b.drop n = b[n] :: b.drop (n + 1) := by
  rcases Nat.lt_or_ge n b.length with h | h
  · exact .inr ⟨h, drop_cons h⟩
  · exact .inl ⟨List.drop_eq_nil_of_le h, by omega⟩
theorem byte_of {b : List Int} (hb : ∀ x ∈ b, 0 ≤ x ∧ x ≤ 255) {n : Nat} (h : n < b.length) : 0 ≤ b[n] ∧ b[n] ≤ 255 := hb _ (List.getElem_mem h)
theorem spec_take_step (b : List Int) (hb : ∀ x ∈ b, 0 ≤ x ∧ x ≤ 255) (hl : b.length ≤ 1048576) (p : Nat) (m c : Nat) (s : Int) (hc : c < 5) (hs0 : 1 ≤ s) (hs : s ≤ 268435456) (hsh : ∀ y : Int, 0 ≤ y → y < 128 → shl .i64 y (IntKind.u64.wrap (wrap64 (7 * (c : Int)))) = y * s) (h7 : Nat → 0 ≤ IntKind.u64.wrap (wrap64 (7 * (c : Int))))
    (ih : ∀ x : Int, 0 ≤ x → x < s * 128 → p + (c + 1) ≤ b.length → Ev (fun k => spec_TakeNumber.l0 k b (p : Int) x ((c + 1 : Nat) : Int)) (outN p (dec m (c + 1) (s * 128) x (b.drop (p + (c + 1))))))
    (x : Int) (hx0 : 0 ≤ x) (hx : x < s) (hp : p + c ≤ b.length) : Ev (fun k => spec_TakeNumber.l0 k b (p : Int) x (c : Int)) (outN p (dec (m + 1) c s x (b.drop (p + c)))) := by
  have e1 : Nat → wrap64 ((p : Int) + (c : Int)) = ((p + c : Nat) : Int) := fun _ => by rw [wid (by omega) (by omega)]; omega
  have e3 : Nat → wrap64 ((c : Int) + 1) = ((c + 1 : Nat) : Int) := fun _ => by rw [wid (by omega) (by omega)]; omega
  refine sh 2 ?_
  rcases drop_case hp with ⟨hd, he⟩ | ⟨h, hd⟩
  · have hge : decide (((p + c : Nat) : Int) ≥ (b.length : Int)) = true := decide_eq_true (by omega)
    simp only [spec_TakeNumber.l0, spec_TakeNumber.j1, e1 0, hge, if_pos (show (c : Int) < 5 by omega), if_neg (show ¬ (p : Int) < 0 by omega), if_true, hd, dec]
    exact ev rfl
  · have hge : decide (((p + c : Nat) : Int) ≥ (b.length : Int)) = false := decide_eq_false (by omega)
    obtain ⟨hv0, hv1⟩ := byte_of hb h
    have hrd : rd b ((p + c : Nat) : Int) = b[p + c] := rd_get h
    rw [hd, dec]
    generalize b[p + c] = v at hrd hv0 hv1 ⊢
    have hw : Nat → wrap64 v = v := fun _ => wid (by omega) (by omega)
    have hm : Int.tmod v 128 = v % 128 := Int.tmod_eq_emod_of_nonneg hv0
    have hsv : Nat → shl .i64 (v % 128) (IntKind.u64.wrap (wrap64 (7 * (c : Int)))) = (v % 128) * s := fun _ => hsh (v % 128) (by omega) (by omega)
    have hmul : (v % 128) * s ≤ 127 * s := Int.mul_le_mul_of_nonneg_right (by omega) (by omega)
    have hmul0 : 0 ≤ (v % 128) * s := Int.mul_nonneg (by omega) (by omega)
    have hsum : Nat → wrap64 (x + (v % 128) * s) = x + (v % 128) * s := fun _ => wid (by omega) (by omega)
    have e2 : Nat → wrap64 (((p + c : Nat) : Int) + 1) = ((p + (c + 1) : Nat) : Int) := fun _ => by rw [wid (by omega) (by omega)]; omega
    simp only [spec_TakeNumber.l0, spec_TakeNumber.j1, e1 0, hge, if_pos (show (c : Int) < 5 by omega), if_neg (show ¬ (p : Int) < 0 by omega), hrd, hw 0, hm, hsv 0, hsum 0, e2 0, e3 0, h7 0, Int.natCast_nonneg, lt_cast h, spec_TickOk_eq, Option.bind_some, decide_eq_true_eq, Bool.not_eq_true', Bool.not_eq_true, decide_eq_false_iff_not, beq_iff_eq, bne_iff_ne, ne_eq, Bool.false_eq_true, Bool.true_eq_false, eq_self_iff_true, if_true, if_false, reduceIte, not_true_eq_false, not_false_eq_true]
    refine ite (fun h1 => ?_) (fun h1 => ?_)
    · rw [if_pos h1]
      have hv : v % 128 = v := by omega
      rw [hv] at hmul0 hmul ⊢
      repeat' (first | refine ite (fun _ => ?_) (fun _ => ?_) | refine ev ?_)
      all_goals first | (rw [if_pos (by omega)]; rfl) | (rw [if_neg (by omega)]; rfl)
    · rw [if_neg h1]
      exact ih (x + (v % 128) * s) (by omega) (by omega) (by omega)
theorem sh7e (c : Nat) (h : c < 5) : IntKind.u64.wrap (wrap64 (7 * (c : Int))) = 7 * c := by
  have hw : wrap64 (7 * (c : Int)) = 7 * c := wid (by omega) (by omega)
  rw [hw]; exact IntWalk.u64_in _ (by omega)
theorem sh7 (c : Nat) (s : Int) (y : Int) (h0 : 0 ≤ y) (h1 : y < 128) (hc : c < 5) (hs0 : 0 ≤ s) (hs : s ≤ 268435456) (hp : (2 : Int) ^ (min (7 * (c : Int)).toNat 64) = s) : shl .i64 y (IntKind.u64.wrap (wrap64 (7 * (c : Int)))) = y * s := by
  rw [sh7e c hc]
  unfold shl
  rw [show IntKind.i64.bits = 64 from rfl, hp]
  have h2 : y * s ≤ 128 * s := Int.mul_le_mul_of_nonneg_right (by omega) hs0
  have h3 : 0 ≤ y * s := Int.mul_nonneg h0 hs0
  exact IntWalk.i64_in _ (by omega)
theorem sh70 (c : Nat) (h : c < 5) : 0 ≤ IntKind.u64.wrap (wrap64 (7 * (c : Int))) := by
  rw [sh7e c h]; omega
theorem spec_take_at (b : List Int) (hb : ∀ x ∈ b, 0 ≤ x ∧ x ≤ 255) (hl : b.length ≤ 1048576) (p : Nat) (hp : p ≤ b.length) : Ev (fun k => spec_TakeNumber.l0 k b (p : Int) 0 ((0 : Nat) : Int)) (outN p (dec 5 0 1 0 (b.drop (p + 0)))) := by
  have s5 : ∀ x : Int, Ev (fun k => spec_TakeNumber.l0 k b (p : Int) x ((5 : Nat) : Int)) (outN p (dec 0 5 34359738368 x (b.drop (p + 5)))) := by
    intro x; refine sh 1 ?_
    simp only [spec_TakeNumber.l0, if_neg (show ¬ ((5 : Nat) : Int) < 5 by omega)]
    exact ev rfl
  have s4 := spec_take_step b hb hl p 0 4 268435456 (by omega) (by omega) (by omega) (fun y h0 h1 => sh7 4 _ y h0 h1 (by omega) (by omega) (by omega) (by decide)) (fun _ => sh70 4 (by omega)) (fun x _ _ _ => s5 x)
  have s3 := spec_take_step b hb hl p 1 3 2097152 (by omega) (by omega) (by omega) (fun y h0 h1 => sh7 3 _ y h0 h1 (by omega) (by omega) (by omega) (by decide)) (fun _ => sh70 3 (by omega)) s4
  have s2 := spec_take_step b hb hl p 2 2 16384 (by omega) (by omega) (by omega) (fun y h0 h1 => sh7 2 _ y h0 h1 (by omega) (by omega) (by omega) (by decide)) (fun _ => sh70 2 (by omega)) s3
  have s1 := spec_take_step b hb hl p 3 1 128 (by omega) (by omega) (by omega) (fun y h0 h1 => sh7 1 _ y h0 h1 (by omega) (by omega) (by omega) (by decide)) (fun _ => sh70 1 (by omega)) s2
  exact spec_take_step b hb hl p 4 0 1 (by omega) (by omega) (by omega) (fun y h0 h1 => sh7 0 _ y h0 h1 (by omega) (by omega) (by omega) (by decide)) (fun _ => sh70 0 (by omega)) s1 0 (by omega) (by omega) (by omega)
theorem spec_TakeNumber_ev (b : List Int) (hb : ∀ x ∈ b, 0 ≤ x ∧ x ≤ 255) (hl : b.length ≤ 1048576) (a : Int) (ha : -9223372036854775808 ≤ a ∧ a ≤ 9223372036854775807) : Ev (fun k => spec_TakeNumber.f k b a) (takeN b a) := by
  unfold spec_TakeNumber.f takeN
  by_cases h : a < 0
  · rw [if_pos h]
    refine sh 2 ?_
    simp only [spec_TakeNumber.l0, spec_TakeNumber.j1, if_pos h, if_true, if_pos (show (0 : Int) < 5 by omega)]
    exact ev rfl
  · rw [if_neg h]
    by_cases h2 : (b.length : Int) ≤ a
    · rw [if_pos h2]
      refine sh 2 ?_
      have hw : wrap64 (a + 0) = a := by rw [wid (by omega) (by omega)]; omega
      simp only [spec_TakeNumber.l0, spec_TakeNumber.j1, if_neg h, hw, decide_eq_true (show a ≥ (b.length : Int) by omega), if_true, if_pos (show (0 : Int) < 5 by omega)]
      exact ev rfl
    · rw [if_neg h2]
      have := spec_take_at b hb hl a.toNat (by omega)
      rw [Int.toNat_of_nonneg (by omega)] at this
      exact this
theorem impl_take_step (b : List Int) (hb : ∀ x ∈ b, 0 ≤ x ∧ x ≤ 255) (hl : b.length ≤ 1048576) (p : Nat) (m c : Nat) (s : Int) (hc : c < 5) (hs0 : 1 ≤ s) (hs : s ≤ 268435456)
    (ih : ∀ x : Int, 0 ≤ x → x < s * 128 → p + (c + 1) ≤ b.length → Ev (fun k => impl_TakeNumber.l0 k b ((p + (c + 1) : Nat) : Int) x (s * 128) ((c + 1 : Nat) : Int)) (outN p (dec m (c + 1) (s * 128) x (b.drop (p + (c + 1))))))
    (x : Int) (hx0 : 0 ≤ x) (hx : x < s) (hp : p + c ≤ b.length) : Ev (fun k => impl_TakeNumber.l0 k b ((p + c : Nat) : Int) x s (c : Int)) (outN p (dec (m + 1) c s x (b.drop (p + c)))) := by
  have e3 : Nat → wrap64 ((c : Int) + 1) = ((c + 1 : Nat) : Int) := fun _ => by rw [wid (by omega) (by omega)]; omega
  have es : Nat → wrap64 (s * 128) = s * 128 := fun _ => wid (by omega) (by omega)
  refine sh 2 ?_
  rcases drop_case hp with ⟨hd, he⟩ | ⟨h, hd⟩
  · have hge : decide (((p + c : Nat) : Int) < (b.length : Int)) = false := decide_eq_false (by omega)
    simp only [impl_TakeNumber.l0, impl_TakeNumber.j1, hge, if_pos (show (c : Int) < 5 by omega), Bool.false_eq_true, if_false, hd, dec]
    exact ev rfl
  · have hge : decide (((p + c : Nat) : Int) < (b.length : Int)) = true := decide_eq_true (by omega)
    obtain ⟨hv0, hv1⟩ := byte_of hb h
    have hrd : rd b ((p + c : Nat) : Int) = b[p + c] := rd_get h
    rw [hd, dec]
    generalize b[p + c] = v at hrd hv0 hv1 ⊢
    have hw : Nat → wrap64 v = v := fun _ => wid (by omega) (by omega)
    have hm : Int.tmod v 128 = v % 128 := Int.tmod_eq_emod_of_nonneg hv0
    have hmul : (v % 128) * s ≤ 127 * s := Int.mul_le_mul_of_nonneg_right (by omega) (by omega)
    have hmul0 : 0 ≤ (v % 128) * s := Int.mul_nonneg (by omega) (by omega)
    have hmw : Nat → wrap64 ((v % 128) * s) = (v % 128) * s := fun _ => wid (by omega) (by omega)
    have hsum : Nat → wrap64 (x + (v % 128) * s) = x + (v % 128) * s := fun _ => wid (by omega) (by omega)
    have e2 : Nat → wrap64 (((p + c : Nat) : Int) + 1) = ((p + (c + 1) : Nat) : Int) := fun _ => by rw [wid (by omega) (by omega)]; omega
    simp only [impl_TakeNumber.l0, impl_TakeNumber.j1, hge, if_pos (show (c : Int) < 5 by omega), hrd, hw 0, hm, hmw 0, hsum 0, e2 0, e3 0, es 0, Int.natCast_nonneg, lt_cast h, impl_TickOk_eq, Option.bind_some, decide_eq_true_eq, Bool.not_eq_true', Bool.not_eq_true, decide_eq_false_iff_not, beq_iff_eq, bne_iff_ne, ne_eq, Bool.false_eq_true, Bool.true_eq_false, eq_self_iff_true, if_true, if_false, reduceIte, not_true_eq_false, not_false_eq_true]
    refine ite (fun h1 => ?_) (fun h1 => ?_)
    · rw [if_neg (show ¬ v < 128 by omega)]
      exact ih (x + (v % 128) * s) (by omega) (by omega) (by omega)
    · rw [if_pos (show v < 128 by omega)]
      have hv : v % 128 = v := by omega
      rw [hv] at hmul0 hmul ⊢
      repeat' (first | refine ite (fun _ => ?_) (fun _ => ?_) | refine ev ?_)
      all_goals first | (rw [if_pos (by omega)]; rfl) | (rw [if_neg (by omega)]; rfl)
theorem impl_take_at (b : List Int) (hb : ∀ x ∈ b, 0 ≤ x ∧ x ≤ 255) (hl : b.length ≤ 1048576) (p : Nat) (hp : p ≤ b.length) : Ev (fun k => impl_TakeNumber.l0 k b ((p + 0 : Nat) : Int) 0 1 ((0 : Nat) : Int)) (outN p (dec 5 0 1 0 (b.drop (p + 0)))) := by
  have s5 : ∀ x : Int, Ev (fun k => impl_TakeNumber.l0 k b ((p + 5 : Nat) : Int) x 34359738368 ((5 : Nat) : Int)) (outN p (dec 0 5 34359738368 x (b.drop (p + 5)))) := by
    intro x; refine sh 2 ?_
    simp only [impl_TakeNumber.l0, impl_TakeNumber.j1, if_neg (show ¬ ((5 : Nat) : Int) < 5 by omega), Bool.false_eq_true, if_false]
    exact ev rfl
  have s4 := impl_take_step b hb hl p 0 4 268435456 (by omega) (by omega) (by omega) (fun x _ _ _ => s5 x)
  have s3 := impl_take_step b hb hl p 1 3 2097152 (by omega) (by omega) (by omega) s4
  have s2 := impl_take_step b hb hl p 2 2 16384 (by omega) (by omega) (by omega) s3
  have s1 := impl_take_step b hb hl p 3 1 128 (by omega) (by omega) (by omega) s2
  exact impl_take_step b hb hl p 4 0 1 (by omega) (by omega) (by omega) s1 0 (by omega) (by omega) (by omega)
theorem impl_TakeNumber_ev (b : List Int) (hb : ∀ x ∈ b, 0 ≤ x ∧ x ≤ 255) (hl : b.length ≤ 1048576) (a : Int) (ha : -9223372036854775808 ≤ a ∧ a ≤ 9223372036854775807) : Ev (fun k => impl_TakeNumber.f k b a) (takeN b a) := by
  unfold impl_TakeNumber.f takeN
  refine ite (fun h => ev (by rw [if_pos h])) (fun h => ?_)
  rw [if_neg h]
  by_cases h2 : (b.length : Int) ≤ a
  · rw [if_pos h2]
    refine sh 2 ?_
    simp only [impl_TakeNumber.l0, impl_TakeNumber.j1, decide_eq_false (show ¬ a < (b.length : Int) by omega), Bool.false_eq_true, if_false, if_pos (show (0 : Int) < 5 by omega)]
    exact ev rfl
  · rw [if_neg h2]
    have := impl_take_at b hb hl a.toNat (by omega)
    rw [show ((a.toNat + 0 : Nat) : Int) = a by omega] at this
    exact this

theorem dec_bound : ∀ (m c : Nat) (s x : Int) (l : List Int) (y : Int) (c' : Nat), dec m c s x l = some (y, c') → c < c' ∧ c' ≤ c + l.length := by
  intro m
  induction m with
  | zero => intro c s x l y c' h; simp [dec] at h
  | succ m ih =>
    intro c s x l y c' h
    cases l with
    | nil => simp [dec] at h
    | cons v bs =>
      unfold dec at h
      split at h
      · split at h
        · cases h
        · injection h with h; injection h with _ h; simp; omega
      · have := ih _ _ _ _ _ _ h; simp; omega
theorem takeN_range (b : List Int) (hl : b.length ≤ 1048576) (a : Int) : -1 ≤ (takeN b a).2 ∧ (takeN b a).2 ≤ b.length := by
  unfold takeN
  split
  · simp
  · split
    · simp
    · next h h2 =>
      cases hd : dec 5 0 1 0 (b.drop a.toNat) with
      | none => simp [outN]
      | some q =>
        obtain ⟨y, c⟩ := q
        have := dec_bound _ _ _ _ _ _ _ hd
        simp [outN] at this ⊢
        omega
def takeE (b : List Int) (a : Int) : Int × Int × Int × Int :=
  if a < 0 ∨ (b.length : Int) ≤ a then (0, 0, 0, -1) else if rd b a > 11 then (0, 0, 0, -1) else
    if (takeN b (a + 1)).2 < 0 then (0, 0, 0, -1) else if (takeN b (takeN b (a + 1)).2).2 < 0 then (0, 0, 0, -1) else
      (rd b a, (takeN b (a + 1)).1, (takeN b (takeN b (a + 1)).2).1, (takeN b (takeN b (a + 1)).2).2)
theorem rd_byte {b : List Int} (hb : ∀ x ∈ b, 0 ≤ x ∧ x ≤ 255) (a : Int) : 0 ≤ rd b a ∧ rd b a ≤ 255 := by
  unfold rd
  rcases Nat.lt_or_ge a.toNat b.length with h | h
  · rw [getD_get _ h]; exact hb _ (List.getElem_mem h)
  · rw [List.getD_eq_getElem?_getD, List.getElem?_eq_none h]; simp
theorem spec_TakeEvent_ev (b : List Int) (hb : ∀ x ∈ b, 0 ≤ x ∧ x ≤ 255) (hl : b.length ≤ 1048576) (a : Int) (ha : -9223372036854775808 ≤ a ∧ a ≤ 9223372036854775807) : Ev (fun k => spec_TakeEvent.f k b a) (takeE b a) := by
  unfold spec_TakeEvent.f takeE
  by_cases h : a < 0 ∨ (b.length : Int) ≤ a
  · rw [if_pos h]
    refine sh 1 ?_
    simp only [spec_TakeEvent.j0, if_true]
    repeat' (first | refine ite (fun _ => ?_) (fun _ => ?_) | refine ev ?_)
    all_goals first | rfl | omega
  · rw [if_neg h]
    obtain ⟨hr0, hr1⟩ := rd_byte hb a
    have hw : wrap64 (rd b a) = rd b a := wid (by omega) (by omega)
    have hw1 : wrap64 (a + 1) = a + 1 := wid (by omega) (by omega)
    refine sh 1 ?_
    simp only [spec_TakeEvent.j0, if_neg (show ¬ a < 0 by omega), if_neg (show ¬ a ≥ (b.length : Int) by omega), if_pos (show 0 ≤ a by omega), if_pos (show a < (b.length : Int) by omega), hw, hw1, decide_eq_true_eq]
    clear hw hw1
    refine ite (fun h1 => ev (by rw [if_pos h1])) (fun h1 => ?_)
    rw [if_neg h1]
    refine bnd (spec_TakeNumber_ev b hb hl _ (by omega)) ?_
    have ht := takeN_range b hl (a + 1)
    refine ite (fun h2 => ev (by rw [if_pos h2])) (fun h2 => ?_)
    rw [if_neg h2]
    refine bnd (spec_TakeNumber_ev b hb hl _ (by omega)) ?_
    refine ite (fun h3 => ev (by rw [if_pos h3])) (fun h3 => ev (by rw [if_neg h3]))
theorem impl_TakeEvent_ev (b : List Int) (hb : ∀ x ∈ b, 0 ≤ x ∧ x ≤ 255) (hl : b.length ≤ 1048576) (a : Int) (ha : -9223372036854775808 ≤ a ∧ a ≤ 9223372036854775807) : Ev (fun k => impl_TakeEvent.f k b a) (takeE b a) := by
  unfold impl_TakeEvent.f takeE
  have hwl : wrap64 ((b.length : Int) - 1) = (b.length : Int) - 1 := wid (by omega) (by omega)
  simp only [in_eq, hwl, Option.bind_some, decide_eq_true_eq]
  clear hwl
  by_cases h : a < 0 ∨ (b.length : Int) ≤ a
  · rw [if_pos h]
    refine sh 1 ?_
    simp only [impl_TakeEvent.j0, if_true]
    repeat' (first | refine ite (fun _ => ?_) (fun _ => ?_) | refine ev ?_)
    all_goals first | rfl | omega
  · rw [if_neg h]
    obtain ⟨hr0, hr1⟩ := rd_byte hb a
    have hw : wrap64 (rd b a) = rd b a := wid (by omega) (by omega)
    have hw1 : wrap64 (a + 1) = a + 1 := wid (by omega) (by omega)
    refine sh 1 ?_
    simp only [impl_TakeEvent.j0, if_pos (show 0 ≤ a ∧ a ≤ (b.length : Int) - 1 by omega), if_pos (show 0 ≤ a by omega), if_pos (show a < (b.length : Int) by omega), hw, hw1, decide_eq_true_eq]
    clear hw hw1
    refine ite (fun h1 => ev (by rw [if_pos h1])) (fun h1 => ?_)
    rw [if_neg h1]
    refine bnd (impl_TakeNumber_ev b hb hl _ (by omega)) ?_
    have ht := takeN_range b hl (a + 1)
    refine ite (fun h2 => ev (by rw [if_pos h2])) (fun h2 => ?_)
    rw [if_neg h2]
    refine bnd (impl_TakeNumber_ev b hb hl _ (by omega)) ?_
    refine ite (fun h3 => ev (by rw [if_pos h3])) (fun h3 => ev (by rw [if_neg h3]))

theorem takeE_range (b : List Int) (hl : b.length ≤ 1048576) (a : Int) (h : ¬ (takeE b a).2.2.2 < 0) : 0 ≤ a ∧ a < (takeE b a).2.2.2 ∧ (takeE b a).2.2.2 ≤ b.length := by
  unfold takeE at h ⊢
  split at h
  · simp at h
  · next h1 =>
    split at h
    · simp at h
    · next h2 =>
      split at h
      · simp at h
      · next h3 =>
        split at h
        · simp at h
        · next h4 =>
          rw [if_neg h1, if_neg h2, if_neg h3, if_neg h4]
          have key : ∀ x, ¬ (takeN b x).2 < 0 → x < (takeN b x).2 := by
            intro x hx
            unfold takeN at hx ⊢
            split at hx
            · simp at hx
            · next g1 =>
              split at hx
              · simp at hx
              · next g2 =>
                rw [if_neg g1, if_neg g2]
                cases hd : dec 5 0 1 0 (b.drop x.toNat) with
                | none => rw [hd] at hx; simp [outN] at hx
                | some q =>
                  obtain ⟨y, c⟩ := q
                  have := dec_bound _ _ _ _ _ _ _ hd
                  simp only [outN]
                  omega
          have k1 := key _ h3
          have k2 := key _ h4
          have k3 := takeN_range b hl (takeN b (a + 1)).2
          simp only
          omega
theorem sTM0 (k : Nat) (b : List Int) (acc : List S50) (a : Int) : spec_TakeMost.l0 (k + 1) b acc a = if a < (b.length : Int) then (spec_TakeMost.j1 k b acc a (decide ((acc.length : Int) < 2000))) else (spec_TakeMost.j1 k b acc a false) := rfl
theorem sTM1 (k : Nat) (b : List Int) (acc : List S50) (a : Int) (x : Bool) : spec_TakeMost.j1 (k + 1) b acc a x = if x = true then ((spec_TakeEvent.f k b a).bind fun q => (if q.2.2.2 < 0 then (some (acc, a)) else (if acc.length < 5864062014805 then (spec_TakeMost.l0 k b (acc ++ [(⟨q.1, q.2.1, q.2.2.1⟩ : S50)]) q.2.2.2) else (none)))) else (some (acc, a)) := rfl
theorem takeMost_key (b : List Int) (hb : ∀ x ∈ b, 0 ≤ x ∧ x ≤ 255) (hl : b.length ≤ 8000) : ∀ (d : Nat) (acc : List S50) (a : Nat), a ≤ b.length → b.length - a ≤ d → acc.length ≤ a →
    ∃ r : List S50 × Int, r.1.length ≤ 8000 ∧ 0 ≤ r.2 ∧ r.2 ≤ b.length ∧ Ev (fun k => spec_TakeMost.l0 k b acc (a : Int)) r ∧ Ev (fun k => impl_TakeMost.l0 k b acc (a : Int)) r := by
  intro d
  induction d with
  | zero =>
    intro acc a ha hd hacc
    have he : a = b.length := by omega
    refine ⟨(acc, (a : Int)), by simp only; omega, by simp, by simp only; omega, ?_, ?_⟩
    · refine Ev.step (fun k => sTM0 k _ _ _) ?_
      refine ite (fun h => absurd h (by omega)) (fun _ => ?_)
      refine Ev.step (fun k => sTM1 k _ _ _ _) ?_
      exact ite (fun h => absurd h (by simp)) (fun _ => ev rfl)
    · refine Ev.step (fun k => impl_TakeMost.l0_s k _ _ _) ?_
      refine ite (fun _ => ?_) (fun _ => ev rfl)
      refine bnd (impl_TakeEvent_ev b hb (by omega) a (by omega)) ?_
      refine ite (fun _ => ev rfl) (fun h => ?_)
      have := takeE_range b (by omega) a h
      omega
  | succ d ih =>
    intro acc a ha hd hacc
    by_cases hf : (acc.length : Int) < 2000 ∧ ¬ (takeE b a).2.2.2 < 0
    · have hr := takeE_range b (by omega) a hf.2
      obtain ⟨a', ha'⟩ : ∃ a' : Nat, (takeE b a).2.2.2 = a' := ⟨(takeE b a).2.2.2.toNat, by omega⟩
      obtain ⟨r, h1, h2, h3, h4, h5⟩ := ih (acc ++ [⟨(takeE b a).1, (takeE b a).2.1, (takeE b a).2.2.1⟩]) a' (by omega) (by omega) (by simp; omega)
      refine ⟨r, h1, h2, h3, ?_, ?_⟩
      · refine Ev.step (fun k => sTM0 k _ _ _) ?_
        refine ite (fun _ => ?_) (fun h => absurd (show (a : Int) < (b.length : Int) by omega) h)
        refine Ev.step (fun k => sTM1 k _ _ _ _) ?_
        refine ite (fun _ => ?_) (fun h => absurd (decide_eq_true hf.1) h)
        refine bnd (spec_TakeEvent_ev b hb (by omega) a (by omega)) ?_
        refine ite (fun h => absurd h hf.2) (fun _ => ?_)
        refine ite (fun _ => ?_) (fun h => absurd (show acc.length < 5864062014805 by omega) h)
        rw [ha']
        exact h4
      · refine Ev.step (fun k => impl_TakeMost.l0_s k _ _ _) ?_
        refine ite (fun _ => ?_) (fun h => absurd hf.1 h)
        refine bnd (impl_TakeEvent_ev b hb (by omega) a (by omega)) ?_
        refine ite (fun h => absurd h hf.2) (fun _ => ?_)
        refine ite (fun _ => ?_) (fun h => absurd (show acc.length < 5864062014805 by omega) h)
        rw [ha']
        exact h5
    · refine ⟨(acc, (a : Int)), by simp only; omega, by simp, by simp only; omega, ?_, ?_⟩
      · refine Ev.step (fun k => sTM0 k _ _ _) ?_
        refine ite (fun h0 => ?_) (fun _ => Ev.step (fun k => sTM1 k _ _ _ _) (ite (fun h => absurd h (by simp)) (fun _ => ev rfl)))
        refine Ev.step (fun k => sTM1 k _ _ _ _) ?_
        refine ite (fun h1 => ?_) (fun _ => ev rfl)
        replace h1 := of_decide_eq_true h1
        refine bnd (spec_TakeEvent_ev b hb (by omega) a (by omega)) ?_
        refine ite (fun _ => ev rfl) (fun h => absurd ⟨h1, h⟩ hf)
      · refine Ev.step (fun k => impl_TakeMost.l0_s k _ _ _) ?_
        refine ite (fun h1 => ?_) (fun _ => ev rfl)
        refine bnd (impl_TakeEvent_ev b hb (by omega) a (by omega)) ?_
        refine ite (fun _ => ev rfl) (fun h => absurd ⟨h1, h⟩ hf)
theorem takeMost_both (b : List Int) (hb : ∀ x ∈ b, 0 ≤ x ∧ x ≤ 255) (hl : b.length ≤ 1048576) :
    ∃ r : List S50 × Int, r.1.length ≤ 8000 ∧ 0 ≤ r.2 ∧ r.2 ≤ b.length ∧ Ev (fun k => spec_TakeMost.f k b) r ∧ Ev (fun k => impl_TakeMost.f k b) r := by
  unfold spec_TakeMost.f impl_TakeMost.f
  by_cases h : (b.length : Int) > 8000
  · refine ⟨([], 0), by simp, by simp, by simp, ?_, ?_⟩
    · simp only [if_pos h]; exact ev rfl
    · simp only [if_pos h]; exact ev rfl
  · simp only [if_neg h]
    exact takeMost_key b hb (by omega) b.length [] 0 (by omega) (by omega) (by simp)

theorem toByteS_loop (l : List Int) (hl : l.length ≤ 9223372036854775807) : ∀ n, n ≤ l.length → ∀ acc : List Int, acc.length = l.length →
    Ev (fun k => laws_toByteS.l0 k l acc (n : Int)) (acc.take n ++ l.drop n) := by
  refine down ?_ ?_
  · intro acc ha
    refine sh 1 ?_
    simp only [laws_toByteS.l0, Int.lt_irrefl, if_false]
    exact ev (by simp [← ha])
  · intro n hn ih acc ha
    refine sh 1 ?_
    simp only [laws_toByteS.l0, lt_cast hn, ha, Int.natCast_nonneg, if_true, wsucc hn hl, Int.toNat_natCast, rd_get hn]
    refine eqv (ih (acc.set n l[n]) (by simp [ha])) ?_
    rw [take_set (by omega), drop_cons hn, List.append_assoc]; rfl
theorem toByteS_ev (l : List Int) (hl : l.length ≤ 1048576) : Ev (fun k => laws_toByteS.f k l) l := by
  unfold laws_toByteS.f
  simp only [Int.natCast_nonneg, if_true, Int.toNat_natCast, if_pos (show l.length ≤ 281474976710656 by omega)]
  exact eqv (toByteS_loop l (by omega) 0 (Nat.zero_le _) (List.replicate l.length 0) (by simp)) (by simp)

theorem eqByteS_loop (l : List Int) (hl : l.length ≤ 9223372036854775807) : ∀ n, n ≤ l.length → Ev (fun k => laws_eqByteS.l0 k l l (n : Int)) true := by
  refine down ?_ ?_
  · refine sh 1 ?_
    simp only [laws_eqByteS.l0, Int.lt_irrefl, if_false]
    exact ev rfl
  · intro n hn ih
    refine sh 1 ?_
    simp only [laws_eqByteS.l0, lt_cast hn, Int.natCast_nonneg, if_true, wsucc hn hl]
    exact ih
theorem eqByteS_ev (l : List Int) (hl : l.length ≤ 9223372036854775807) : Ev (fun k => laws_eqByteS.f k l l) true := by
  unfold laws_eqByteS.f
  simp only [if_true]
  exact eqByteS_loop l hl 0 (Nat.zero_le _)

def mkByte (v : Int) : Int := (v % 256)
theorem markByteS_loop (L : Nat) (hL : L ≤ 1099511627776) : ∀ n, n ≤ L → ∀ (acc : List Int) (v : Int), acc.length = L → 0 ≤ v → v + (L - n : Nat) ≤ 4611686018427387904 →
    Ev (fun k => laws_markByteS.l0 k acc v (n : Int)) (v + (L - n : Nat), acc.take n ++ mkG mkByte 1 v (L - n)) := by
  refine down ?_ ?_
  · intro acc v ha h0 hv
    refine sh 1 ?_
    simp only [laws_markByteS.l0, ha, Int.lt_irrefl, if_false]
    exact ev (by simp [mkG, ← ha])
  · intro n hn ih acc v ha h0 hv
    refine sh 1 ?_
    have hd : L - n = (L - (n + 1)) + 1 := by omega
    have e1 : wrap64 (v + 1) = v + 1 := wid (by omega) (by omega)
    simp only [laws_markByteS.l0, ha, lt_cast hn, Int.natCast_nonneg, if_true, wsucc hn (show L ≤ 9223372036854775807 by omega), Int.toNat_natCast, e1]
    refine eqv (ih (acc.set n (mkByte v)) (v + 1) (by simp [ha]) (by omega) (by omega)) ?_
    rw [take_set (by omega), hd, mkG]
    simp only [List.append_assoc, List.cons_append, List.nil_append, Prod.mk.injEq, and_true]
    omega
theorem markByteS_ev (l : List Int) (v : Int) (hl : l.length ≤ 1099511627776) (h0 : 0 ≤ v) (h1 : v ≤ 1152921504606846976) : Ev (fun k => laws_markByteS.f k l v) (v + l.length, mkG mkByte 1 v l.length) := by
  unfold laws_markByteS.f
  refine eqv (markByteS_loop l.length hl 0 (Nat.zero_le _) l v rfl h0 (by omega)) ?_
  simp

theorem rdB_Event {l : List S50} {n : Nat} (h : n < l.length) : rd_T50 l (n : Int) = l[n] := by unfold rd_T50; rw [Int.toNat_natCast]; exact getD_get _ h
theorem eqEvent_self (x : S50) : laws_eqEvent.f x.f0 x.f1 x.f2 x.f0 x.f1 x.f2 = some true := by unfold laws_eqEvent.f; simp
theorem eqEventS_loop (l : List S50) (hl : l.length ≤ 9223372036854775807) : ∀ n, n ≤ l.length → Ev (fun k => laws_eqEventS.l0 k l l (n : Int)) true := by
  refine down ?_ ?_
  · refine sh 1 ?_
    simp only [laws_eqEventS.l0, Int.lt_irrefl, if_false]
    exact ev rfl
  · intro n hn ih
    refine sh 1 ?_
    simp only [laws_eqEventS.l0, lt_cast hn, Int.natCast_nonneg, if_true, wsucc hn hl, eqEvent_self, Option.bind_some]
    exact ih
theorem eqEventS_ev (l : List S50) (hl : l.length ≤ 9223372036854775807) : Ev (fun k => laws_eqEventS.f k l l) true := by
  unfold laws_eqEventS.f
  simp only [if_true]
  exact eqEventS_loop l hl 0 (Nat.zero_le _)

def mkEvent (v : Int) : S50 := ⟨v, (v + 1), (v + 2)⟩
theorem rds_Event {l : List S50} {n : Nat} (h : n < l.length) (x : S50) : rd_T50 (l.set n x) (n : Int) = x := by rw [rdB_Event (by simpa using h)]; simp
theorem markEventS_loop (L : Nat) (hL : L ≤ 1099511627776) : ∀ n, n ≤ L → ∀ (acc : List S50) (v : Int), acc.length = L → 0 ≤ v → v + 3 * (L - n : Nat) ≤ 4611686018427387904 →
    Ev (fun k => laws_markEventS.l0 k acc v (n : Int)) (v + 3 * (L - n : Nat), acc.take n ++ mkG mkEvent 3 v (L - n)) := by
  refine down ?_ ?_
  · intro acc v ha h0 hv
    refine sh 1 ?_
    simp only [laws_markEventS.l0, ha, Int.lt_irrefl, if_false]
    exact ev (by simp [mkG, ← ha])
  · intro n hn ih acc v ha h0 hv
    refine sh 1 ?_
    have hd : L - n = (L - (n + 1)) + 1 := by omega
    have e1 : wrap64 (v + 1) = v + 1 := wid (by omega) (by omega)
    have e2 : wrap64 (v + 1 + 1) = v + 2 := by rw [wid (by omega) (by omega)]; omega
    have e3 : wrap64 (v + 2 + 1) = v + 3 := by rw [wid (by omega) (by omega)]; omega
    have hn2 : n < acc.length := by omega
    simp only [laws_markEventS.l0, ha, lt_cast hn, Int.natCast_nonneg, if_true, wsucc hn (show L ≤ 9223372036854775807 by omega), Int.toNat_natCast, Option.bind_some, rds_Event hn2, List.set_set, e1, e2, e3]
    refine eqv (ih (acc.set n (mkEvent v)) (v + 3) (by simp [ha]) (by omega) (by omega)) ?_
    rw [take_set (by omega), hd, mkG]
    simp only [List.append_assoc, List.cons_append, List.nil_append, Prod.mk.injEq, and_true]
    omega
theorem markEventS_ev (l : List S50) (v : Int) (hl : l.length ≤ 1099511627776) (h0 : 0 ≤ v) (h1 : v ≤ 1152921504606846976) : Ev (fun k => laws_markEventS.f k l v) (v + 3 * l.length, mkG mkEvent 3 v l.length) := by
  unfold laws_markEventS.f
  refine eqv (markEventS_loop l.length hl 0 (Nat.zero_le _) l v rfl h0 (by omega)) ?_
  simp

theorem heldEventS_loop (L : Nat) (l : List S50) (hl : l.length = L) (hL : L ≤ 1099511627776) : ∀ n, n ≤ L → ∀ v : Int, 0 ≤ v → v + 3 * (L - n : Nat) ≤ 4611686018427387904 → l.drop n = mkG mkEvent 3 v (L - n) →
    Ev (fun k => laws_heldEventS.l0 k l v (n : Int)) (v + 3 * (L - n : Nat)) := by
  refine down ?_ ?_
  · intro v h0 hv _
    refine sh 1 ?_
    simp only [laws_heldEventS.l0, hl, Int.lt_irrefl, if_false]
    exact ev (by simp)
  · intro n hn ih v h0 hv hd
    refine sh 1 ?_
    have hd2 : L - n = (L - (n + 1)) + 1 := by omega
    rw [hd2, mkG] at hd
    obtain ⟨hn2, hg, hdr⟩ := get_of_drop hd
    have e1 : wrap64 (v + 1) = v + 1 := wid (by omega) (by omega)
    have e2 : wrap64 (v + 1 + 1) = v + 2 := by rw [wid (by omega) (by omega)]; omega
    have e3 : wrap64 (v + 2 + 1) = v + 3 := by rw [wid (by omega) (by omega)]; omega
    simp only [laws_heldEventS.l0, hl, lt_cast hn, Int.natCast_nonneg, if_true, wsucc hn (show L ≤ 9223372036854775807 by omega), rdB_Event hn2, hg, mkEvent, e1, e2, e3]
    refine eqv (ih (v + 3) (by omega) (by omega) hdr) ?_
    omega
theorem heldEventS_ev (L : Nat) (v : Int) (hl : L ≤ 1099511627776) (h0 : 0 ≤ v) (h1 : v ≤ 1152921504606846976) : Ev (fun k => laws_heldEventS.f k (mkG mkEvent 3 v L) v) (v + 3 * L) := by
  unfold laws_heldEventS.f
  refine eqv (heldEventS_loop L _ (mkG_length _ _ _ _) hl 0 (Nat.zero_le _) v h0 (by omega) (by simp)) ?_
  simp

theorem pure_holds : PureOf := by
  intro l hl
  refine Ev.rounds (g := fun k => laws_FnExactTakeLog.f k l) ?_
  unfold laws_FnExactTakeLog.f
  refine ite (fun h => ev rfl) (fun h => ?_)
  have hb : l.length ≤ 1048576 := by omega
  have hby : ∀ y ∈ l, 0 ≤ y ∧ y ≤ 255 := fun y hy => hl.2 y hy
  have key : ∃ r : List S50 × Bool, r.1.length ≤ 8000 ∧ Ev (fun k => spec_TakeLog.f k l) r ∧ Ev (fun k => impl_TakeLog.f k l) r := by
    obtain ⟨⟨r, n⟩, hr, _, _, h1, h2⟩ := takeMost_both l hby hb
    simp only at hr
    unfold spec_TakeLog.f impl_TakeLog.f
    by_cases hn : n = (l.length : Int)
    · exact ⟨(r, true), hr, bnd h1 (by simp only [if_pos hn]; exact ev rfl), bnd h2 (by simp only [if_pos hn]; exact ev rfl)⟩
    · exact ⟨([], false), by simp, bnd h1 (by simp only [if_neg hn]; exact ev rfl), bnd h2 (by simp only [if_neg hn]; exact ev rfl)⟩
  obtain ⟨⟨r, n⟩, hr, h1, h2⟩ := key
  simp only at hr
  have he := eqByteS_ev l (by omega)
  have hi := eqEventS_ev r (by omega)
  have hm := markByteS_ev l 1 (by omega) (by omega) (by omega)
  have hmi := markEventS_ev r 1 (by omega) (by omega) (by omega)
  have hhi := heldEventS_ev r.length 1 (by omega) (by omega) (by omega)
  repeat' (first | exact ev rfl | (refine ite (fun h => absurd h (by omega)) (fun _ => ?_)) | (refine ite (fun _ => ?_) (fun h => absurd rfl h)) | refine bnd (toByteS_ev l hb) ?_ | refine bnd (h1) ?_ | refine bnd (h2) ?_ | refine bnd (he) ?_ | refine bnd (hi) ?_ | refine bnd (hm) ?_ | refine bnd (hmi) ?_ | refine bnd (hhi) ?_ | simp only [laws_FnExactTakeLog.j0, laws_FnExactTakeLog.j1, laws_FnExactTakeLog.j2, if_true, bne_self_eq_false, Bool.false_eq_true, if_false, Option.bind_some, Bool.not_true, Bool.not_false] | (refine sh 1 ?_; simp only [laws_FnExactTakeLog.j0, laws_FnExactTakeLog.j1, laws_FnExactTakeLog.j2, if_true, bne_self_eq_false, Bool.false_eq_true, if_false, Option.bind_some, Bool.not_true, Bool.not_false]))

end Go.Proofs.Ytladnbmemohekaa.PFnExactTakeLog
