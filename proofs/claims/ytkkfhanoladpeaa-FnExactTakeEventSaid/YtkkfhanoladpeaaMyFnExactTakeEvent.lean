/- The pure statement of FnExactTakeEvent: the program's TakeEvent answers what the reference's answers, for every input. -/
import Derived.Test.YtkkfhanoladpeaaPFnExactTakeEventx0
import Derived.Test.YtkkfhanoladpeaaPFnExactTakeEventx1
import Derived.Test.YtkkfhanoladpeaaPFnExactTakeEventx2
import Derived.Test.YtkkfhanoladpeaaAid
import Derived.Test.YtkkfhanoladpeaaGFnExactTakeEvent
namespace Go.Proofs.Ytkkfhanoladpeaa.PFnExactTakeEvent
open Go.RowKit Go.Proofs.YtkkfhanoladpeaaW.PrintWords Go.Proofs.YtkkfhanoladpeaaW.PrintLast Go.Proofs.Ytkkfhanoladpeaa.Opn Go.Proofs.Ytkkfhanoladpeaa.Aid
set_option linter.unusedVariables false
set_option linter.unusedSimpArgs false

def PureOf : Prop := ∀ (l0 : List Int) (a1 : Int), (l0.length ≤ maxLen ∧ ∀ y2 ∈ l0, U8 y2) → I64 a1 → ∃ k, laws_FnExactTakeEvent.f k l0 a1 = some true
theorem l01In_eq (a b c : Int) : spec_l01In.f a b c = some (decide (b ≤ a ∧ a ≤ c)) := by
  unfold spec_l01In.f; split <;> simp [*]
theorem in_eq (a b c : Int) : impl_in.f a b c = some (decide (b ≤ a ∧ a ≤ c)) := by
  unfold impl_in.f; split
  · simp_all
  · next h => simp; omega

theorem spec_TickOk_eq (a : Int) : spec_TickOk.f a = some (decide (0 ≤ a ∧ a ≤ 1000000000)) := by
  unfold spec_TickOk.f; rw [l01In_eq]; rfl

theorem impl_TickOk_eq (a : Int) : impl_TickOk.f a = some (decide (0 ≤ a ∧ a ≤ 1000000000)) := by
  unfold impl_TickOk.f; rw [in_eq]; rfl

/-- A number out of bytes: what is read and how many bytes it takes; c: how many were read so far, s: what the next group counts. -/
def dec : Nat → Nat → Int → Int → List Int → Option (Int × Nat)
  | 0, _, _, _, _ => none
  | _ + 1, _, _, _, [] => none
  | m + 1, c, s, x, v :: bs => if v < 128 then (if (v = 0 ∧ 0 < c) ∨ ¬ (x + v * s ≤ 1000000000) then none else some (x + v * s, c + 1)) else dec m (c + 1) (s * 128) (x + (v % 128) * s) bs
def outN (p : Nat) : Option (Int × Nat) → Int × Int
  | none => (0, -1)
  | some (x, c) => (x, (p + c : Nat))
def takeN (b : List Int) (at_ : Int) : Int × Int := if at_ < 0 then (0, -1) else if (b.length : Int) ≤ at_ then (0, -1) else outN at_.toNat (dec 5 0 1 0 (b.drop at_.toNat))
theorem drop_case {b : List Int} {n : Nat} (hn : n ≤ b.length) : (b.drop n = [] ∧ n = b.length) ∨ ∃ (h : n < b.length), b.drop n = b[n] :: b.drop (n + 1) := by
  rcases Nat.lt_or_ge n b.length with h | h
  · exact .inr ⟨h, drop_cons h⟩
  · exact .inl ⟨List.drop_eq_nil_of_le h, by omega⟩
theorem byte_of {b : List Int} (hb : ∀ x ∈ b, 0 ≤ x ∧ x ≤ 255) {n : Nat} (h : n < b.length) : 0 ≤ b[n] ∧ b[n] ≤ 255 := hb _ (List.getElem_mem h)
theorem spec_take_step (b : List Int) (hb : ∀ x ∈ b, 0 ≤ x ∧ x ≤ 255) (hl : b.length ≤ 1048576) (p : Nat) (m c : Nat) (s : Int) (hc : c < 5) (hs0 : 1 ≤ s) (hs : s ≤ 268435456) (hsh : ∀ y : Int, 0 ≤ y → y < 128 → shl .i64 y (IntKind.u64.wrap (wrap64 (7 * (c : Int)))) = y * s) (h7 : Nat → 0 ≤ IntKind.u64.wrap (wrap64 (7 * (c : Int))))
    (ih : ∀ x : Int, 0 ≤ x → x < s * 128 → p + (c + 1) ≤ b.length → Ev (fun k => spec_TakeNumber.l0 k b (p : Int) x ((c + 1 : Nat) : Int)) (outN p (dec m (c + 1) (s * 128) x (b.drop (p + (c + 1))))))
    (x : Int) (hx0 : 0 ≤ x) (hx : x < s) (hp : p + c ≤ b.length) : Ev (fun k => spec_TakeNumber.l0 k b (p : Int) x (c : Int)) (outN p (dec (m + 1) c s x (b.drop (p + c)))) := by
  have e1 : Nat → wrap64 ((p : Int) + (c : Int)) = ((p + c : Nat) : Int) := fun _ => by rw [wid (by omega) (by omega)]; omega
  have e3 : Nat → wrap64 ((c : Int) + 1) = ((c + 1 : Nat) : Int) := fun _ => by rw [wid (by omega) (by omega)]; omega
  refine sh 2 ?_
  rcases drop_case hp with ⟨hd, he⟩ | ⟨h, hd⟩
  · have hge : decide (((p + c : Nat) : Int) ≥ (b.length : Int)) = true := decide_eq_true (by omega)
    simp only [spec_TakeNumber.l0, spec_TakeNumber.j1, e1 0, hge, if_pos (show (c : Int) < 5 by omega), if_neg (show ¬ (p : Int) < 0 by omega), if_true, hd, dec]
    exact ev rfl
  · have hge : decide (((p + c : Nat) : Int) ≥ (b.length : Int)) = false := decide_eq_false (by omega)
    obtain ⟨hv0, hv1⟩ := byte_of hb h
    have hrd : rd b ((p + c : Nat) : Int) = b[p + c] := rd_get h
    rw [hd, dec]
    generalize b[p + c] = v at hrd hv0 hv1 ⊢
    have hw : Nat → wrap64 v = v := fun _ => wid (by omega) (by omega)
    have hm : Int.tmod v 128 = v % 128 := Int.tmod_eq_emod_of_nonneg hv0
    have hsv : Nat → shl .i64 (v % 128) (IntKind.u64.wrap (wrap64 (7 * (c : Int)))) = (v % 128) * s := fun _ => hsh (v % 128) (by omega) (by omega)
    have hmul : (v % 128) * s ≤ 127 * s := Int.mul_le_mul_of_nonneg_right (by omega) (by omega)
    have hmul0 : 0 ≤ (v % 128) * s := Int.mul_nonneg (by omega) (by omega)
    have hsum : Nat → wrap64 (x + (v % 128) * s) = x + (v % 128) * s := fun _ => wid (by omega) (by omega)
    have e2 : Nat → wrap64 (((p + c : Nat) : Int) + 1) = ((p + (c + 1) : Nat) : Int) := fun _ => by rw [wid (by omega) (by omega)]; omega
    simp only [spec_TakeNumber.l0, spec_TakeNumber.j1, e1 0, hge, if_pos (show (c : Int) < 5 by omega), if_neg (show ¬ (p : Int) < 0 by omega), hrd, hw 0, hm, hsv 0, hsum 0, e2 0, e3 0, h7 0, Int.natCast_nonneg, lt_cast h, spec_TickOk_eq, Option.bind_some, decide_eq_true_eq, Bool.not_eq_true', Bool.not_eq_true, decide_eq_false_iff_not, beq_iff_eq, bne_iff_ne, ne_eq, Bool.false_eq_true, Bool.true_eq_false, eq_self_iff_true, if_true, if_false, reduceIte, not_true_eq_false, not_false_eq_true]
    refine ite (fun h1 => ?_) (fun h1 => ?_)
    · rw [if_pos h1]
      have hv : v % 128 = v := by omega
      rw [hv] at hmul0 hmul ⊢
      repeat' (first | refine ite (fun _ => ?_) (fun _ => ?_) | refine ev ?_)
      all_goals first | (rw [if_pos (by omega)]; rfl) | (rw [if_neg (by omega)]; rfl)
    · rw [if_neg h1]
      exact ih (x + (v % 128) * s) (by omega) (by omega) (by omega)
theorem sh7e (c : Nat) (h : c < 5) : IntKind.u64.wrap (wrap64 (7 * (c : Int))) = 7 * c := by
  have hw : wrap64 (7 * (c : Int)) = 7 * c := wid (by omega) (by omega)
  rw [hw]; exact IntWalk.u64_in _ (by omega)
theorem sh7 (c : Nat) (s : Int) (y : Int) (h0 : 0 ≤ y) (h1 : y < 128) (hc : c < 5) (hs0 : 0 ≤ s) (hs : s ≤ 268435456) (hp : (2 : Int) ^ (min (7 * (c : Int)).toNat 64) = s) : shl .i64 y (IntKind.u64.wrap (wrap64 (7 * (c : Int)))) = y * s := by
  rw [sh7e c hc]
  unfold shl
  rw [show IntKind.i64.bits = 64 from rfl, hp]
  have h2 : y * s ≤ 128 * s := Int.mul_le_mul_of_nonneg_right (by omega) hs0
  have h3 : 0 ≤ y * s := Int.mul_nonneg h0 hs0
  exact IntWalk.i64_in _ (by omega)
theorem sh70 (c : Nat) (h : c < 5) : 0 ≤ IntKind.u64.wrap (wrap64 (7 * (c : Int))) := by
  rw [sh7e c h]; omega
theorem spec_take_at (b : List Int) (hb : ∀ x ∈ b, 0 ≤ x ∧ x ≤ 255) (hl : b.length ≤ 1048576) (p : Nat) (hp : p ≤ b.length) : Ev (fun k => spec_TakeNumber.l0 k b (p : Int) 0 ((0 : Nat) : Int)) (outN p (dec 5 0 1 0 (b.drop (p + 0)))) := by
  have s5 : ∀ x : Int, Ev (fun k => spec_TakeNumber.l0 k b (p : Int) x ((5 : Nat) : Int)) (outN p (dec 0 5 34359738368 x (b.drop (p + 5)))) := by
    intro x; refine sh 1 ?_
    simp only [spec_TakeNumber.l0, if_neg (show ¬ ((5 : Nat) : Int) < 5 by omega)]
    exact ev rfl
  have s4 := spec_take_step b hb hl p 0 4 268435456 (by omega) (by omega) (by omega) (fun y h0 h1 => sh7 4 _ y h0 h1 (by omega) (by omega) (by omega) (by decide)) (fun _ => sh70 4 (by omega)) (fun x _ _ _ => s5 x)
  have s3 := spec_take_step b hb hl p 1 3 2097152 (by omega) (by omega) (by omega) (fun y h0 h1 => sh7 3 _ y h0 h1 (by omega) (by omega) (by omega) (by decide)) (fun _ => sh70 3 (by omega)) s4
  have s2 := spec_take_step b hb hl p 2 2 16384 (by omega) (by omega) (by omega) (fun y h0 h1 => sh7 2 _ y h0 h1 (by omega) (by omega) (by omega) (by decide)) (fun _ => sh70 2 (by omega)) s3
  have s1 := spec_take_step b hb hl p 3 1 128 (by omega) (by omega) (by omega) (fun y h0 h1 => sh7 1 _ y h0 h1 (by omega) (by omega) (by omega) (by decide)) (fun _ => sh70 1 (by omega)) s2
  exact spec_take_step b hb hl p 4 0 1 (by omega) (by omega) (by omega) (fun y h0 h1 => sh7 0 _ y h0 h1 (by omega) (by omega) (by omega) (by decide)) (fun _ => sh70 0 (by omega)) s1 0 (by omega) (by omega) (by omega)
theorem spec_TakeNumber_ev (b : List Int) (hb : ∀ x ∈ b, 0 ≤ x ∧ x ≤ 255) (hl : b.length ≤ 1048576) (a : Int) (ha : -9223372036854775808 ≤ a ∧ a ≤ 9223372036854775807) : Ev (fun k => spec_TakeNumber.f k b a) (takeN b a) := by
  unfold spec_TakeNumber.f takeN
  by_cases h : a < 0
  · rw [if_pos h]
    refine sh 2 ?_
    simp only [spec_TakeNumber.l0, spec_TakeNumber.j1, if_pos h, if_true, if_pos (show (0 : Int) < 5 by omega)]
    exact ev rfl
  · rw [if_neg h]
    by_cases h2 : (b.length : Int) ≤ a
    · rw [if_pos h2]
      refine sh 2 ?_
      have hw : wrap64 (a + 0) = a := by rw [wid (by omega) (by omega)]; omega
      simp only [spec_TakeNumber.l0, spec_TakeNumber.j1, if_neg h, hw, decide_eq_true (show a ≥ (b.length : Int) by omega), if_true, if_pos (show (0 : Int) < 5 by omega)]
      exact ev rfl
    · rw [if_neg h2]
      have := spec_take_at b hb hl a.toNat (by omega)
      rw [Int.toNat_of_nonneg (by omega)] at this
      exact this
theorem impl_take_step (b : List Int) (hb : ∀ x ∈ b, 0 ≤ x ∧ x ≤ 255) (hl : b.length ≤ 1048576) (p : Nat) (m c : Nat) (s : Int) (hc : c < 5) (hs0 : 1 ≤ s) (hs : s ≤ 268435456)
    (ih : ∀ x : Int, 0 ≤ x → x < s * 128 → p + (c + 1) ≤ b.length → Ev (fun k => impl_TakeNumber.l0 k b ((p + (c + 1) : Nat) : Int) x (s * 128) ((c + 1 : Nat) : Int)) (outN p (dec m (c + 1) (s * 128) x (b.drop (p + (c + 1))))))
    (x : Int) (hx0 : 0 ≤ x) (hx : x < s) (hp : p + c ≤ b.length) : Ev (fun k => impl_TakeNumber.l0 k b ((p + c : Nat) : Int) x s (c : Int)) (outN p (dec (m + 1) c s x (b.drop (p + c)))) := by
  have e3 : Nat → wrap64 ((c : Int) + 1) = ((c + 1 : Nat) : Int) := fun _ => by rw [wid (by omega) (by omega)]; omega
  have es : Nat → wrap64 (s * 128) = s * 128 := fun _ => wid (by omega) (by omega)
  refine sh 2 ?_
  rcases drop_case hp with ⟨hd, he⟩ | ⟨h, hd⟩
  · have hge : decide (((p + c : Nat) : Int) < (b.length : Int)) = false := decide_eq_false (by omega)
    simp only [impl_TakeNumber.l0, impl_TakeNumber.j1, hge, if_pos (show (c : Int) < 5 by omega), Bool.false_eq_true, if_false, hd, dec]
    exact ev rfl
  · have hge : decide (((p + c : Nat) : Int) < (b.length : Int)) = true := decide_eq_true (by omega)
    obtain ⟨hv0, hv1⟩ := byte_of hb h
    have hrd : rd b ((p + c : Nat) : Int) = b[p + c] := rd_get h
    rw [hd, dec]
    generalize b[p + c] = v at hrd hv0 hv1 ⊢
    have hw : Nat → wrap64 v = v := fun _ => wid (by omega) (by omega)
    have hm : Int.tmod v 128 = v % 128 := Int.tmod_eq_emod_of_nonneg hv0
    have hmul : (v % 128) * s ≤ 127 * s := Int.mul_le_mul_of_nonneg_right (by omega) (by omega)
    have hmul0 : 0 ≤ (v % 128) * s := Int.mul_nonneg (by omega) (by omega)
    have hmw : Nat → wrap64 ((v % 128) * s) = (v % 128) * s := fun _ => wid (by omega) (by omega)
    have hsum : Nat → wrap64 (x + (v % 128) * s) = x + (v % 128) * s := fun _ => wid (by omega) (by omega)
    have e2 : Nat → wrap64 (((p + c : Nat) : Int) + 1) = ((p + (c + 1) : Nat) : Int) := fun _ => by rw [wid (by omega) (by omega)]; omega
    simp only [impl_TakeNumber.l0, impl_TakeNumber.j1, hge, if_pos (show (c : Int) < 5 by omega), hrd, hw 0, hm, hmw 0, hsum 0, e2 0, e3 0, es 0, Int.natCast_nonneg, lt_cast h, impl_TickOk_eq, Option.bind_some, decide_eq_true_eq, Bool.not_eq_true', Bool.not_eq_true, decide_eq_false_iff_not, beq_iff_eq, bne_iff_ne, ne_eq, Bool.false_eq_true, Bool.true_eq_false, eq_self_iff_true, if_true, if_false, reduceIte, not_true_eq_false, not_false_eq_true]
    refine ite (fun h1 => ?_) (fun h1 => ?_)
    · rw [if_neg (show ¬ v < 128 by omega)]
      exact ih (x + (v % 128) * s) (by omega) (by omega) (by omega)
    · rw [if_pos (show v < 128 by omega)]
      have hv : v % 128 = v := by omega
      rw [hv] at hmul0 hmul ⊢
      repeat' (first | refine ite (fun _ => ?_) (fun _ => ?_) | refine ev ?_)
      all_goals first | (rw [if_pos (by omega)]; rfl) | (rw [if_neg (by omega)]; rfl)
theorem impl_take_at (b : List Int) (hb : ∀ x ∈ b, 0 ≤ x ∧ x ≤ 255) (hl : b.length ≤ 1048576) (p : Nat) (hp : p ≤ b.length) : Ev (fun k => impl_TakeNumber.l0 k b ((p + 0 : Nat) : Int) 0 1 ((0 : Nat) : Int)) (outN p (dec 5 0 1 0 (b.drop (p + 0)))) := by
  have s5 : ∀ x : Int, Ev (fun k => impl_TakeNumber.l0 k b ((p + 5 : Nat) : Int) x 34359738368 ((5 : Nat) : Int)) (outN p (dec 0 5 34359738368 x (b.drop (p + 5)))) := by
    intro x; refine sh 2 ?_
    simp only [impl_TakeNumber.l0, impl_TakeNumber.j1, if_neg (show ¬ ((5 : Nat) : Int) < 5 by omega), Bool.false_eq_true, if_false]
    exact ev rfl
  have s4 := impl_take_step b hb hl p 0 4 268435456 (by omega) (by omega) (by omega) (fun x _ _ _ => s5 x)
  have s3 := impl_take_step b hb hl p 1 3 2097152 (by omega) (by omega) (by omega) s4
  have s2 := impl_take_step b hb hl p 2 2 16384 (by omega) (by omega) (by omega) s3
  have s1 := impl_take_step b hb hl p 3 1 128 (by omega) (by omega) (by omega) s2
  exact impl_take_step b hb hl p 4 0 1 (by omega) (by omega) (by omega) s1 0 (by omega) (by omega) (by omega)
theorem impl_TakeNumber_ev (b : List Int) (hb : ∀ x ∈ b, 0 ≤ x ∧ x ≤ 255) (hl : b.length ≤ 1048576) (a : Int) (ha : -9223372036854775808 ≤ a ∧ a ≤ 9223372036854775807) : Ev (fun k => impl_TakeNumber.f k b a) (takeN b a) := by
  unfold impl_TakeNumber.f takeN
  refine ite (fun h => ev (by rw [if_pos h])) (fun h => ?_)
  rw [if_neg h]
  by_cases h2 : (b.length : Int) ≤ a
  · rw [if_pos h2]
    refine sh 2 ?_
    simp only [impl_TakeNumber.l0, impl_TakeNumber.j1, decide_eq_false (show ¬ a < (b.length : Int) by omega), Bool.false_eq_true, if_false, if_pos (show (0 : Int) < 5 by omega)]
    exact ev rfl
  · rw [if_neg h2]
    have := impl_take_at b hb hl a.toNat (by omega)
    rw [show ((a.toNat + 0 : Nat) : Int) = a by omega] at this
    exact this

theorem dec_bound : ∀ (m c : Nat) (s x : Int) (l : List Int) (y : Int) (c' : Nat), dec m c s x l = some (y, c') → c < c' ∧ c' ≤ c + l.length := by
  intro m
  induction m with
  | zero => intro c s x l y c' h; simp [dec] at h
  | succ m ih =>
    intro c s x l y c' h
    cases l with
    | nil => simp [dec] at h
    | cons v bs =>
      unfold dec at h
      split at h
      · split at h
        · cases h
        · injection h with h; injection h with _ h; simp; omega
      · have := ih _ _ _ _ _ _ h; simp; omega
theorem takeN_range (b : List Int) (hl : b.length ≤ 1048576) (a : Int) : -1 ≤ (takeN b a).2 ∧ (takeN b a).2 ≤ b.length := by
  unfold takeN
  split
  · simp
  · split
    · simp
    · next h h2 =>
      cases hd : dec 5 0 1 0 (b.drop a.toNat) with
      | none => simp [outN]
      | some q =>
        obtain ⟨y, c⟩ := q
        have := dec_bound _ _ _ _ _ _ _ hd
        simp [outN] at this ⊢
        omega
def takeE (b : List Int) (a : Int) : Int × Int × Int × Int :=
  if a < 0 ∨ (b.length : Int) ≤ a then (0, 0, 0, -1) else if rd b a > 11 then (0, 0, 0, -1) else
    if (takeN b (a + 1)).2 < 0 then (0, 0, 0, -1) else if (takeN b (takeN b (a + 1)).2).2 < 0 then (0, 0, 0, -1) else
      (rd b a, (takeN b (a + 1)).1, (takeN b (takeN b (a + 1)).2).1, (takeN b (takeN b (a + 1)).2).2)
theorem rd_byte {b : List Int} (hb : ∀ x ∈ b, 0 ≤ x ∧ x ≤ 255) (a : Int) : 0 ≤ rd b a ∧ rd b a ≤ 255 := by
  unfold rd
  rcases Nat.lt_or_ge a.toNat b.length with h | h
  · rw [getD_get _ h]; exact hb _ (List.getElem_mem h)
  · rw [List.getD_eq_getElem?_getD, List.getElem?_eq_none h]; simp
theorem spec_TakeEvent_ev (b : List Int) (hb : ∀ x ∈ b, 0 ≤ x ∧ x ≤ 255) (hl : b.length ≤ 1048576) (a : Int) (ha : -9223372036854775808 ≤ a ∧ a ≤ 9223372036854775807) : Ev (fun k => spec_TakeEvent.f k b a) (takeE b a) := by
  unfold spec_TakeEvent.f takeE
  by_cases h : a < 0 ∨ (b.length : Int) ≤ a
  · rw [if_pos h]
    refine sh 1 ?_
    simp only [spec_TakeEvent.j0, if_true]
    repeat' (first | refine ite (fun _ => ?_) (fun _ => ?_) | refine ev ?_)
    all_goals first | rfl | omega
  · rw [if_neg h]
    obtain ⟨hr0, hr1⟩ := rd_byte hb a
    have hw : wrap64 (rd b a) = rd b a := wid (by omega) (by omega)
    have hw1 : wrap64 (a + 1) = a + 1 := wid (by omega) (by omega)
    refine sh 1 ?_
    simp only [spec_TakeEvent.j0, if_neg (show ¬ a < 0 by omega), if_neg (show ¬ a ≥ (b.length : Int) by omega), if_pos (show 0 ≤ a by omega), if_pos (show a < (b.length : Int) by omega), hw, hw1, decide_eq_true_eq]
    clear hw hw1
    refine ite (fun h1 => ev (by rw [if_pos h1])) (fun h1 => ?_)
    rw [if_neg h1]
    refine bnd (spec_TakeNumber_ev b hb hl _ (by omega)) ?_
    have ht := takeN_range b hl (a + 1)
    refine ite (fun h2 => ev (by rw [if_pos h2])) (fun h2 => ?_)
    rw [if_neg h2]
    refine bnd (spec_TakeNumber_ev b hb hl _ (by omega)) ?_
    refine ite (fun h3 => ev (by rw [if_pos h3])) (fun h3 => ev (by rw [if_neg h3]))
theorem impl_TakeEvent_ev (b : List Int) (hb : ∀ x ∈ b, 0 ≤ x ∧ x ≤ 255) (hl : b.length ≤ 1048576) (a : Int) (ha : -9223372036854775808 ≤ a ∧ a ≤ 9223372036854775807) : Ev (fun k => impl_TakeEvent.f k b a) (takeE b a) := by
  unfold impl_TakeEvent.f takeE
  have hwl : wrap64 ((b.length : Int) - 1) = (b.length : Int) - 1 := wid (by omega) (by omega)
  simp only [in_eq, hwl, Option.bind_some, decide_eq_true_eq]
  clear hwl
  by_cases h : a < 0 ∨ (b.length : Int) ≤ a
  · rw [if_pos h]
    refine sh 1 ?_
    simp only [impl_TakeEvent.j0, if_true]
    repeat' (first | refine ite (fun _ => ?_) (fun _ => ?_) | refine ev ?_)
    all_goals first | rfl | omega
  · rw [if_neg h]
    obtain ⟨hr0, hr1⟩ := rd_byte hb a
    have hw : wrap64 (rd b a) = rd b a := wid (by omega) (by omega)
    have hw1 : wrap64 (a + 1) = a + 1 := wid (by omega) (by omega)
    refine sh 1 ?_
    simp only [impl_TakeEvent.j0, if_pos (show 0 ≤ a ∧ a ≤ (b.length : Int) - 1 by omega), if_pos (show 0 ≤ a by omega), if_pos (show a < (b.length : Int) by omega), hw, hw1, decide_eq_true_eq]
    clear hw hw1
    refine ite (fun h1 => ev (by rw [if_pos h1])) (fun h1 => ?_)
    rw [if_neg h1]
    refine bnd (impl_TakeNumber_ev b hb hl _ (by omega)) ?_
    have ht := takeN_range b hl (a + 1)
    refine ite (fun h2 => ev (by rw [if_pos h2])) (fun h2 => ?_)
    rw [if_neg h2]
    refine bnd (impl_TakeNumber_ev b hb hl _ (by omega)) ?_
    refine ite (fun h3 => ev (by rw [if_pos h3])) (fun h3 => ev (by rw [if_neg h3]))

theorem toByteS_loop (l : List Int) (hl : l.length ≤ 9223372036854775807) : ∀ n, n ≤ l.length → ∀ acc : List Int, acc.length = l.length →
    Ev (fun k => laws_toByteS.l0 k l acc (n : Int)) (acc.take n ++ l.drop n) := by
  refine down ?_ ?_
  · intro acc ha
    refine sh 1 ?_
    simp only [laws_toByteS.l0, Int.lt_irrefl, if_false]
    exact ev (by simp [← ha])
  · intro n hn ih acc ha
    refine sh 1 ?_
    simp only [laws_toByteS.l0, lt_cast hn, ha, Int.natCast_nonneg, if_true, wsucc hn hl, Int.toNat_natCast, rd_get hn]
    refine eqv (ih (acc.set n l[n]) (by simp [ha])) ?_
    rw [take_set (by omega), drop_cons hn, List.append_assoc]; rfl
theorem toByteS_ev (l : List Int) (hl : l.length ≤ 1048576) : Ev (fun k => laws_toByteS.f k l) l := by
  unfold laws_toByteS.f
  simp only [Int.natCast_nonneg, if_true, Int.toNat_natCast, if_pos (show l.length ≤ 281474976710656 by omega)]
  exact eqv (toByteS_loop l (by omega) 0 (Nat.zero_le _) (List.replicate l.length 0) (by simp)) (by simp)

theorem eqByteS_loop (l : List Int) (hl : l.length ≤ 9223372036854775807) : ∀ n, n ≤ l.length → Ev (fun k => laws_eqByteS.l0 k l l (n : Int)) true := by
  refine down ?_ ?_
  · refine sh 1 ?_
    simp only [laws_eqByteS.l0, Int.lt_irrefl, if_false]
    exact ev rfl
  · intro n hn ih
    refine sh 1 ?_
    simp only [laws_eqByteS.l0, lt_cast hn, Int.natCast_nonneg, if_true, wsucc hn hl]
    exact ih
theorem eqByteS_ev (l : List Int) (hl : l.length ≤ 9223372036854775807) : Ev (fun k => laws_eqByteS.f k l l) true := by
  unfold laws_eqByteS.f
  simp only [if_true]
  exact eqByteS_loop l hl 0 (Nat.zero_le _)

theorem eqEv_self (a b c : Int) : laws_eqEvent.f a b c a b c = some true := by unfold laws_eqEvent.f; simp
theorem pure_holds : PureOf := by
  intro l x hl hx
  refine Ev.rounds (g := fun k => laws_FnExactTakeEvent.f k l x) ?_
  unfold laws_FnExactTakeEvent.f
  refine ite (fun h => ev rfl) (fun h => ?_)
  have hb : l.length ≤ 1048576 := by omega
  have hby : ∀ y ∈ l, 0 ≤ y ∧ y ≤ 255 := fun y hy => hl.2 y hy
  refine bnd (toByteS_ev l hb) (bnd (spec_TakeEvent_ev l hby hb x hx) (bnd (toByteS_ev l hb) (bnd (impl_TakeEvent_ev l hby hb x hx) ?_)))
  refine sh 1 ?_
  simp only [eqEv_self, Option.bind_some, if_true, laws_FnExactTakeEvent.j0, bne_self_eq_false, Bool.false_eq_true, if_false]
  refine bnd (toByteS_ev l hb) (bnd (eqByteS_ev l (by omega)) ?_)
  exact ev rfl

end Go.Proofs.Ytkkfhanoladpeaa.PFnExactTakeEvent
