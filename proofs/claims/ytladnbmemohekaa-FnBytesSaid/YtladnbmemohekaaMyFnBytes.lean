/- The pure statement of FnBytes: decoding an encoded log gives it back; of a log cut short just its whole events are read. -/
import Derived.Test.YtladnbmemohekaaPFnBytesx0
import Derived.Test.YtladnbmemohekaaPFnBytesx1
import Derived.Test.YtladnbmemohekaaPFnBytesx2
import Derived.Test.YtladnbmemohekaaPFnBytesx3
import Derived.Test.YtladnbmemohekaaPFnBytesx4
import Derived.Test.YtladnbmemohekaaPFnBytesx5
import Derived.Test.YtladnbmemohekaaPFnBytesx6
import Derived.Test.YtladnbmemohekaaPFnBytesx7
import Derived.Test.YtladnbmemohekaaPFnBytesx8
import Derived.Test.YtladnbmemohekaaAid
import Derived.Test.YtladnbmemohekaaGFnBytes
namespace Go.Proofs.Ytladnbmemohekaa.PFnBytes
open Go.RowKit Go.Proofs.YtladnbmemohekaaW.PrintWords Go.Proofs.YtladnbmemohekaaW.PrintLast Go.Proofs.Ytladnbmemohekaa.Opn Go.Proofs.Ytladnbmemohekaa.Aid
set_option linter.unusedVariables false
set_option linter.unusedSimpArgs false

def PureOf : Prop := ∀ (l0 : List Int), (l0.length ≤ maxLen ∧ ∀ y2 ∈ l0, U8 y2) → ∃ k, laws_FnBytes.f k l0 = some true
theorem rdB_Event {l : List S50} {n : Nat} (h : n < l.length) : rd_T50 l (n : Int) = l[n] := by unfold rd_T50; rw [Int.toNat_natCast]; exact getD_get _ h

theorem and_255 (x : Int) : 0 ≤ Go.bits .and .i64 x 255 ∧ Go.bits .and .i64 x 255 ≤ 255 := by
  have h : (BitVec.ofInt 64 x &&& BitVec.ofInt 64 255).toNat ≤ 255 := by
    rw [BitVec.toNat_and]
    exact Nat.le_trans Nat.and_le_right (by decide)
  show 0 ≤ IntKind.i64.wrap ((BitVec.ofInt 64 x &&& BitVec.ofInt 64 255).toNat : Int) ∧ IntKind.i64.wrap ((BitVec.ofInt 64 x &&& BitVec.ofInt 64 255).toNat : Int) ≤ 255
  generalize (BitVec.ofInt 64 x &&& BitVec.ofInt 64 255).toNat = m at h
  have hw : IntKind.i64.wrap (m : Int) = m := IntWalk.i64_in _ (by omega)
  rw [hw]; omega
/-- A draw: an answer with what holds of it, and the cursor's place and number behind it. -/
def Dr {α : Type} (b : List Int) (Q : α → Prop) (f : Option (α × Int × Int)) : Prop := ∃ r i h, f = some (r, i, h) ∧ Q r ∧ 0 ≤ i ∧ i ≤ (b.length : Int)
theorem Dr.bind {α γ : Type} {b : List Int} {Q : α → Prop} {f : Option (α × Int × Int)} {F : α × Int × Int → Option γ} {P : Option γ → Prop} (h1 : Dr b Q f) (h2 : ∀ r i h, Q r → 0 ≤ i → i ≤ (b.length : Int) → P (F (r, i, h))) : P (f.bind F) := by
  obtain ⟨r, i, h, rfl, hq, h0, h3⟩ := h1
  exact h2 r i h hq h0 h3
theorem Dr.now {α : Type} {b : List Int} {Q : α → Prop} {r : α} {i h : Int} (hq : Q r) (h0 : 0 ≤ i) (h1 : i ≤ (b.length : Int)) : Dr b Q (some (r, i, h)) := ⟨r, i, h, rfl, hq, h0, h1⟩
theorem draw_Byte (b : List Int) (hb : b.length ≤ 1048576) (i h : Int) (h0 : 0 ≤ i) (h1 : i ≤ (b.length : Int)) : Dr b (fun x => 0 ≤ x ∧ x ≤ 255) (spec_l01Byte.f b i h) := by
  unfold spec_l01Byte.f
  split
  · rename_i hlt
    (try rw [if_pos h0])
    have hw : wrap64 (i + 1) = i + 1 := wid (by omega) (by omega)
    rw [hw]
    exact Dr.now (and_255 _) (by omega) (by omega)
  · exact Dr.now (and_255 _) h0 h1
theorem draw_Below (b : List Int) (hb : b.length ≤ 1048576) (i h : Int) (h0 : 0 ≤ i) (h1 : i ≤ (b.length : Int)) (n : Int) : Dr b (fun x => 0 ≤ x ∧ (0 < n → x < n) ∧ (n ≤ 0 → x = 0)) (spec_l01Below.f b i h n) := by
  unfold spec_l01Below.f
  split
  · exact Dr.now ⟨by omega, by omega, by omega⟩ h0 h1
  · rename_i hn
    have hn0 : ¬ n = 0 := by omega
    split
    · refine (draw_Byte b hb i h h0 h1).bind (fun r i h hq h0 h1 => ?_)
      (try rw [if_neg hn0])
      refine Dr.now ⟨Int.tmod_nonneg _ hq.1, fun h => Int.tmod_lt_of_pos _ h, by omega⟩ h0 h1
    · refine (draw_Byte b hb i h h0 h1).bind (fun r i h hq h0 h1 => ?_)
      refine (draw_Byte b hb i h h0 h1).bind (fun r2 i h hq2 h0 h1 => ?_)
      refine (draw_Byte b hb i h h0 h1).bind (fun r3 i h hq3 h0 h1 => ?_)
      (try rw [if_neg hn0])
      have e1 : wrap64 (r * 65536) = r * 65536 := wid (by omega) (by omega)
      have e2 : wrap64 (r2 * 256) = r2 * 256 := wid (by omega) (by omega)
      have e3 : wrap64 (r * 65536 + r2 * 256) = r * 65536 + r2 * 256 := wid (by omega) (by omega)
      have e4 : wrap64 (r * 65536 + r2 * 256 + r3) = r * 65536 + r2 * 256 + r3 := wid (by omega) (by omega)
      simp only [e1, e2, e3, e4]
      refine Dr.now ⟨Int.tmod_nonneg _ (by omega), fun h => Int.tmod_lt_of_pos _ h, by omega⟩ h0 h1
theorem draw_Once (b : List Int) (hb : b.length ≤ 1048576) (i h : Int) (h0 : 0 ≤ i) (h1 : i ≤ (b.length : Int)) (n : Int) : Dr b (fun _ => True) (spec_l01Once.f b i h n) := by
  unfold spec_l01Once.f
  refine (draw_Below b hb i h h0 h1 n).bind (fun r i h hq h0 h1 => ?_)
  exact Dr.now trivial h0 h1
theorem draw_PickInt (b : List Int) (hb : b.length ≤ 1048576) (i h : Int) (h0 : 0 ≤ i) (h1 : i ≤ (b.length : Int)) (l : List Int) (hl : 0 < l.length) : Dr b (fun x => x ∈ l) (spec_l01PickInt.f b i h l) := by
  unfold spec_l01PickInt.f
  refine (draw_Below b hb i h h0 h1 _).bind (fun r i h hq h0 h1 => ?_)
  have hr : r < (l.length : Int) := hq.2.1 (by omega)
  rw [if_pos hq.1, if_pos hr]
  obtain ⟨m, rfl⟩ : ∃ m : Nat, r = m := ⟨r.toNat, by omega⟩
  refine Dr.now ?_ h0 h1
  rw [rd_get (by omega)]; exact List.getElem_mem _
theorem draw_New_loop (l : List Int) (hl : l.length ≤ 1048576) : ∀ n, n ≤ l.length → ∀ x, ∃ h, Ev (fun k => spec_l01New.l0 k l x (n : Int)) (l, 0, h) := by
  refine down ?_ ?_
  · intro x
    refine ⟨x, sh 1 ?_⟩
    simp only [spec_l01New.l0, Int.lt_irrefl, if_false]
    exact ev rfl
  · intro n hn ih x
    obtain ⟨h, hh⟩ := ih (Go.bits .and .i64 (wrap64 ((wrap64 ((wrap64 (x * 149)) + (wrap64 (rd l (n : Int))))) + 11)) 1073741823)
    by_cases h4 : (n : Int) < 4000
    · refine ⟨h, sh 1 ?_⟩
      simp only [spec_l01New.l0, lt_cast hn, h4, Int.natCast_nonneg, if_true, wsucc hn (show l.length ≤ 9223372036854775807 by omega)]
      exact hh
    · refine ⟨x, sh 1 ?_⟩
      simp only [spec_l01New.l0, lt_cast hn, h4, if_true, if_false]
      exact ev rfl
theorem draw_New (l : List Int) (hl : l.length ≤ 1048576) : ∃ h, Ev (fun k => spec_l01New.f k l) (l, 0, h) := by
  unfold spec_l01New.f
  exact draw_New_loop l hl 0 (Nat.zero_le _) _
theorem draw_Size (l : List Int) (hl : l.length ≤ 1048576) (m : Int) (hm : 2 ≤ m) : ∃ s, spec_l01Size.f l m = some s ∧ 2 ≤ s ∧ s ≤ m := by
  unfold spec_l01Size.f
  have e1 : wrap64 ((l.length : Int) / 16) = (l.length : Int) / 16 := wid (by omega) (by omega)
  have e2 : wrap64 (2 + (l.length : Int) / 16) = 2 + (l.length : Int) / 16 := wid (by omega) (by omega)
  rw [e1, e2]
  split
  · exact ⟨m, rfl, hm, by omega⟩
  · exact ⟨_, rfl, by omega, by omega⟩

theorem l01In_eq (a b c : Int) : spec_l01In.f a b c = some (decide (b ≤ a ∧ a ≤ c)) := by
  unfold spec_l01In.f; split <;> simp [*]
theorem in_eq (a b c : Int) : impl_in.f a b c = some (decide (b ≤ a ∧ a ≤ c)) := by
  unfold impl_in.f; split
  · simp_all
  · next h => simp; omega

theorem spec_TickOk_eq (a : Int) : spec_TickOk.f a = some (decide (0 ≤ a ∧ a ≤ 1000000000)) := by
  unfold spec_TickOk.f; rw [l01In_eq]; rfl

theorem impl_TickOk_eq (a : Int) : impl_TickOk.f a = some (decide (0 ≤ a ∧ a ≤ 1000000000)) := by
  unfold impl_TickOk.f; rw [in_eq]; rfl

/-- A number's bytes: groups of seven bits, the lowest first. -/
def putB : Nat → Int → List Int
  | 0, x => [x]
  | n + 1, x => if 128 ≤ x then (x % 128 + 128) :: putB n (x / 128) else [x]
def putN (x : Int) : List Int := putB 4 x
theorem putB_length : ∀ n x, 1 ≤ (putB n x).length ∧ (putB n x).length ≤ n + 1
  | 0, x => by simp [putB]
  | n + 1, x => by
    have := putB_length n (x / 128)
    unfold putB; split <;> simp <;> omega
theorem spec_Put_loop : ∀ (n : Nat) (x : Int) (acc : List Int), 0 ≤ x → x < 128 * 128 ^ n → x ≤ 1000000000 → acc.length + n ≤ 1000 → Ev (fun k => spec_PutNumber.l0 k x acc) (acc ++ putB n x) := by
  intro n
  induction n with
  | zero =>
    intro x acc h0 h1 _ ha
    refine sh 1 ?_
    simp only [spec_PutNumber.l0, if_neg (show ¬ x ≥ 128 by omega), if_pos (show acc.length < 140737488355328 by omega)]
    exact ev (by rw [Int.emod_eq_of_lt h0 (by omega)]; rfl)
  | succ n ih =>
    intro x acc h0 h1 h2 ha
    refine sh 1 ?_
    simp only [spec_PutNumber.l0, if_pos (show acc.length < 140737488355328 by omega)]
    rw [putB]
    refine ite (fun h => ?_) (fun h => ?_)
    · rw [if_pos h, Int.tdiv_eq_ediv_of_nonneg h0, Int.tmod_eq_emod_of_nonneg h0, wid (x := x / 128) (by omega) (by omega), wid (x := 128 + x % 128) (by omega) (by omega), show (128 + x % 128) % 256 = x % 128 + 128 by omega]
      have hp : x / 128 < 128 * 128 ^ n := by
        rw [Int.pow_succ] at h1
        generalize (128 : Int) ^ n = z at h1 ⊢
        omega
      refine eqv (ih (x / 128) (acc ++ [x % 128 + 128]) (by omega) hp (by omega) (by simp; omega)) ?_
      simp
    · rw [if_neg h]
      exact ev (by rw [Int.emod_eq_of_lt h0 (by omega)])
theorem spec_PutNumber_ev (x : Int) (h0 : 0 ≤ x) (h1 : x ≤ 1000000000) : Ev (fun k => spec_PutNumber.f k x) (putN x) := by
  unfold spec_PutNumber.f
  simp only [spec_TickOk_eq, Option.bind_some, decide_eq_true_eq, if_pos (show 0 ≤ x ∧ x ≤ 1000000000 from ⟨h0, h1⟩)]
  exact eqv (spec_Put_loop 4 x [] h0 (by omega) h1 (by simp)) rfl
theorem spec_PutNumber_no (x : Int) (h : ¬ (0 ≤ x ∧ x ≤ 1000000000)) : Ev (fun k => spec_PutNumber.f k x) [] := by
  unfold spec_PutNumber.f
  simp only [spec_TickOk_eq, Option.bind_some, decide_eq_true_eq, if_neg h]
  exact ev rfl

theorem impl_Put_loop : ∀ (n : Nat) (x : Int) (acc : List Int), 0 ≤ x → x < 128 * 128 ^ n → x ≤ 1000000000 → acc.length + n ≤ 1000 → Ev (fun k => impl_PutNumber.l0 k x acc) (acc ++ putB n x) := by
  intro n
  induction n with
  | zero =>
    intro x acc h0 h1 _ ha
    refine sh 1 ?_
    simp only [impl_PutNumber.l0, if_neg (show ¬ x ≥ 128 by omega), if_pos (show acc.length < 140737488355328 by omega)]
    exact ev (by rw [Int.emod_eq_of_lt h0 (by omega)]; rfl)
  | succ n ih =>
    intro x acc h0 h1 h2 ha
    refine sh 1 ?_
    simp only [impl_PutNumber.l0, if_pos (show acc.length < 140737488355328 by omega)]
    rw [putB]
    refine ite (fun h => ?_) (fun h => ?_)
    · rw [if_pos h, Int.tdiv_eq_ediv_of_nonneg h0, Int.tmod_eq_emod_of_nonneg h0, wid (x := x / 128) (by omega) (by omega), wid (x := x % 128 + 128) (by omega) (by omega), show (x % 128 + 128) % 256 = x % 128 + 128 by omega]
      have hp : x / 128 < 128 * 128 ^ n := by
        rw [Int.pow_succ] at h1
        generalize (128 : Int) ^ n = z at h1 ⊢
        omega
      refine eqv (ih (x / 128) (acc ++ [x % 128 + 128]) (by omega) hp (by omega) (by simp; omega)) ?_
      simp
    · rw [if_neg h]
      exact ev (by rw [Int.emod_eq_of_lt h0 (by omega)])
theorem impl_PutNumber_ev (x : Int) (h0 : 0 ≤ x) (h1 : x ≤ 1000000000) : Ev (fun k => impl_PutNumber.f k x) (putN x) := by
  unfold impl_PutNumber.f
  simp only [impl_TickOk_eq, Option.bind_some, decide_eq_true_eq, if_pos (show 0 ≤ x ∧ x ≤ 1000000000 from ⟨h0, h1⟩)]
  exact eqv (impl_Put_loop 4 x [] h0 (by omega) h1 (by simp)) rfl
theorem impl_PutNumber_no (x : Int) (h : ¬ (0 ≤ x ∧ x ≤ 1000000000)) : Ev (fun k => impl_PutNumber.f k x) [] := by
  unfold impl_PutNumber.f
  simp only [impl_TickOk_eq, Option.bind_some, decide_eq_true_eq, if_neg h]
  exact ev rfl

theorem l01Bytes_loop (l : List Int) (hl : l.length ≤ 1048576) : ∀ n, n ≤ l.length → ∀ acc : List Int, acc.length ≤ n → Ev (fun k => spec_l01Bytes.l0 k l acc (n : Int)) (acc ++ l.drop n) := by
  refine down ?_ ?_
  · intro acc ha
    refine sh 1 ?_
    simp only [spec_l01Bytes.l0, Int.lt_irrefl, if_false]
    exact ev (by simp)
  · intro n hn ih acc ha
    refine sh 1 ?_
    simp only [spec_l01Bytes.l0, lt_cast hn, Int.natCast_nonneg, if_true, wsucc hn (show l.length ≤ 9223372036854775807 by omega), rd_get hn, if_pos (show acc.length < 140737488355328 by omega)]
    refine eqv (ih (acc ++ [l[n]]) (by simp; omega)) ?_
    rw [drop_cons hn, List.append_assoc]; rfl
theorem l01Bytes_ev (l : List Int) (hl : l.length ≤ 1048576) : Ev (fun k => spec_l01Bytes.f k l) l := by
  unfold spec_l01Bytes.f
  exact eqv (l01Bytes_loop l hl 0 (Nat.zero_le _) [] (by simp)) (by simp)
theorem l01Join_loop (B : Nat) (hB : B ≤ 1048576) (l : List Int) (hl : l.length ≤ 1048576) : ∀ n, n ≤ l.length → ∀ acc : List Int, acc.length ≤ n + B → Ev (fun k => spec_l01Join.l0 k l acc (n : Int)) (acc ++ l.drop n) := by
  refine down ?_ ?_
  · intro acc ha
    refine sh 1 ?_
    simp only [spec_l01Join.l0, Int.lt_irrefl, if_false]
    exact ev (by simp)
  · intro n hn ih acc ha
    refine sh 1 ?_
    simp only [spec_l01Join.l0, lt_cast hn, Int.natCast_nonneg, if_true, wsucc hn (show l.length ≤ 9223372036854775807 by omega), rd_get hn, if_pos (show acc.length < 140737488355328 by omega)]
    refine eqv (ih (acc ++ [l[n]]) (by simp; omega)) ?_
    rw [drop_cons hn, List.append_assoc]; rfl
theorem l01Join_ev (a l : List Int) (ha : a.length ≤ 1048576) (hl : l.length ≤ 1048576) : Ev (fun k => spec_l01Join.f k a l) (a ++ l) := by
  unfold spec_l01Join.f
  refine bnd (l01Bytes_ev a ha) ?_
  exact eqv (l01Join_loop a.length ha l hl 0 (Nat.zero_le _) a (by omega)) (by simp)

def EvPut (a b c : Int) : Prop := (0 ≤ a ∧ a ≤ 11) ∧ (0 ≤ b ∧ b ≤ 1000000000) ∧ (0 ≤ c ∧ c ≤ 1000000000)
instance (a b c : Int) : Decidable (EvPut a b c) := by unfold EvPut; infer_instance
def putE (a b c : Int) : List Int := a :: (putN b ++ putN c)
def putEo (a b c : Int) : List Int := if EvPut a b c then putE a b c else []
theorem putN_length (x : Int) : 1 ≤ (putN x).length ∧ (putN x).length ≤ 5 := putB_length 4 x
theorem putE_length (a b c : Int) : 3 ≤ (putE a b c).length ∧ (putE a b c).length ≤ 11 := by
  have := putN_length b; have := putN_length c; unfold putE; simp; omega
theorem spec_PutEvent_ev (a b c : Int) : Ev (fun k => spec_PutEvent.f k a b c) (putEo a b c) := by
  unfold spec_PutEvent.f putEo
  have hb := putN_length b; have hc := putN_length c
  refine sh 1 ?_
  simp only [l01In_eq, spec_TickOk_eq, spec_PutEvent.j0, Option.bind_some, decide_eq_true_eq, Bool.not_eq_true', Bool.not_eq_true, decide_eq_false_iff_not, beq_iff_eq, bne_iff_ne, ne_eq, Bool.false_eq_true, Bool.true_eq_false, eq_self_iff_true, if_true, if_false, reduceIte, not_true_eq_false, not_false_eq_true]
  refine ite (fun h1 => ite (fun h2 => ite (fun h3 => ?_) (fun h3 => ?_)) (fun h2 => ?_)) (fun h1 => ?_)
  · exact ev (by rw [if_neg]; unfold EvPut; omega)
  · rw [if_pos (by unfold EvPut; omega)]
    refine bnd (spec_PutNumber_ev b h2.1 h2.2) ?_
    refine bnd (l01Join_ev _ _ (by simp) (by omega)) ?_
    refine bnd (spec_PutNumber_ev c (by omega) (by omega)) ?_
    refine bnd (l01Join_ev _ _ (by simp; omega) (by omega)) ?_
    refine ev ?_
    rw [Int.emod_eq_of_lt (by omega) (by omega)]; simp [putE]
  · exact ev (by rw [if_neg]; unfold EvPut; omega)
  · exact ev (by rw [if_neg]; unfold EvPut; omega)
theorem impl_PutEvent_ev (a b c : Int) : Ev (fun k => impl_PutEvent.f k a b c) (putEo a b c) := by
  unfold impl_PutEvent.f putEo
  have hb := putN_length b; have hc := putN_length c
  refine sh 1 ?_
  simp only [in_eq, impl_TickOk_eq, impl_PutEvent.j0, Option.bind_some, decide_eq_true_eq, Bool.not_eq_true', Bool.not_eq_true, decide_eq_false_iff_not, beq_iff_eq, bne_iff_ne, ne_eq, Bool.false_eq_true, Bool.true_eq_false, eq_self_iff_true, if_true, if_false, reduceIte, not_true_eq_false, not_false_eq_true]
  refine ite (fun h1 => ite (fun h2 => ite (fun h3 => ?_) (fun h3 => ?_)) (fun h2 => ?_)) (fun h1 => ?_)
  · exact ev (by rw [if_neg]; unfold EvPut; omega)
  · rw [if_pos (by unfold EvPut; omega)]
    refine bnd (impl_PutNumber_ev b h2.1 h2.2) ?_
    refine ite (fun _ => ?_) (fun h => by exfalso; apply h; simp only [List.length_cons, List.length_nil]; omega)
    refine bnd (impl_PutNumber_ev c (by omega) (by omega)) ?_
    refine ite (fun _ => ?_) (fun h => by exfalso; apply h; simp only [List.length_append, List.length_cons, List.length_nil]; omega)
    refine ev ?_
    rw [Int.emod_eq_of_lt (by omega) (by omega)]; simp [putE]
  · exact ev (by rw [if_neg]; unfold EvPut; omega)
  · exact ev (by rw [if_neg]; unfold EvPut; omega)
theorem putEo_length (a b c : Int) : (putEo a b c).length ≤ 11 := by
  unfold putEo; split
  · exact (putE_length a b c).2
  · simp

def flat (l : List S50) : List Int := l.flatMap (fun e => putE e.f0 e.f1 e.f2)
def AllPut (l : List S50) : Prop := ∀ e ∈ l, EvPut e.f0 e.f1 e.f2
instance (l : List S50) : Decidable (AllPut l) := by unfold AllPut; infer_instance
def putR (acc : List Int) (l : List S50) : List Int × Bool := if AllPut l ∧ (acc ++ flat l).length ≤ 8000 then (acc ++ flat l, true) else ([], false)
theorem putR_no {acc : List Int} {e : S50} {l : List S50} (h : ¬ EvPut e.f0 e.f1 e.f2) : putR acc (e :: l) = ([], false) := by
  unfold putR; rw [if_neg]; rintro ⟨h1, _⟩; exact h (h1 e List.mem_cons_self)
theorem flat_cons (e : S50) (l : List S50) : flat (e :: l) = putE e.f0 e.f1 e.f2 ++ flat l := by simp [flat]
theorem putR_long {acc : List Int} {e : S50} {l : List S50} (h : 8000 < acc.length + (putE e.f0 e.f1 e.f2).length) : putR acc (e :: l) = ([], false) := by
  unfold putR; rw [if_neg]; rintro ⟨_, h1⟩; rw [flat_cons] at h1; simp only [List.length_append] at h1; omega
theorem putR_step {acc : List Int} {e : S50} {l : List S50} (h : EvPut e.f0 e.f1 e.f2) : putR acc (e :: l) = putR (acc ++ putE e.f0 e.f1 e.f2) l := by
  unfold putR AllPut
  rw [flat_cons, List.append_assoc]
  have : (∀ x ∈ e :: l, EvPut x.f0 x.f1 x.f2) ↔ ∀ x ∈ l, EvPut x.f0 x.f1 x.f2 := by rw [List.forall_mem_cons]; exact ⟨fun h => h.2, fun h2 => ⟨h, h2⟩⟩
  simp only [this]
theorem spec_PutLog_inner (B : Nat) (hB : B ≤ 8000) (l : List S50) (i : Int) (b : List Int) (hb : b.length ≤ 1000) (r : List Int × Bool) : ∀ j, j ≤ b.length → ∀ acc : List Int, acc.length ≤ j + B → Ev (fun k => spec_PutLog.l0 k l (acc ++ b.drop j) (wrap64 (i + 1))) r → Ev (fun k => spec_PutLog.l1 k l acc i b (j : Int)) r := by
  refine down ?_ ?_
  · intro acc ha h
    refine sh 1 ?_
    simp only [spec_PutLog.l1, Int.lt_irrefl, if_false]
    rw [List.drop_length, List.append_nil] at h
    exact h
  · intro j hj ih acc ha h
    refine sh 1 ?_
    simp only [spec_PutLog.l1, lt_cast hj, Int.natCast_nonneg, if_true, if_pos (show acc.length < 140737488355328 by omega), rd_get hj, wsucc hj (show b.length ≤ 9223372036854775807 by omega)]
    refine ih (acc ++ [b[j]]) (by simp; omega) ?_
    rw [drop_cons hj] at h
    rw [List.append_assoc]; exact h
theorem spec_PutLog_loop (l : List S50) (hl : l.length ≤ 1048576) : ∀ n, n ≤ l.length → ∀ acc : List Int, acc.length ≤ 8000 → Ev (fun k => spec_PutLog.l0 k l acc (n : Int)) (putR acc (l.drop n)) := by
  refine down ?_ ?_
  · intro acc ha
    refine sh 1 ?_
    simp only [spec_PutLog.l0, Int.lt_irrefl, if_false]
    exact ev (by simp [putR, AllPut, flat, ha])
  · intro n hn ih acc ha
    refine sh 1 ?_
    have hw : wrap64 ((n : Int) + 1) = ((n + 1 : Nat) : Int) := wsucc hn (by omega)
    have hw8 : wrap64 (8000 - (acc.length : Int)) = 8000 - acc.length := wid (by omega) (by omega)
    simp only [spec_PutLog.l0, lt_cast hn, Int.natCast_nonneg, rdB_Event hn, hw8, if_true]
    rw [drop_cons hn]
    clear hw8
    generalize l[n] = e
    have hp := spec_PutEvent_ev e.f0 e.f1 e.f2
    unfold putEo at hp
    by_cases h : EvPut e.f0 e.f1 e.f2
    · rw [if_pos h] at hp
      refine bnd hp ?_
      have hlen := putE_length e.f0 e.f1 e.f2
      refine ite (fun h0 => absurd h0 (by omega)) (fun _ => ?_)
      refine sh 1 ?_
      simp only [spec_PutLog.j1, decide_eq_true_eq]
      refine ite (fun h1 => ev (putR_long (by omega)).symm) (fun h1 => ?_)
      rw [putR_step h]
      refine spec_PutLog_inner acc.length ha l n _ (by omega) _ 0 (Nat.zero_le _) acc (by omega) ?_
      rw [hw, List.drop_zero]
      exact ih _ (by simp only [List.length_append]; omega)
    · rw [if_neg h] at hp
      refine bnd hp ?_
      refine ite (fun _ => ?_) (fun h0 => absurd rfl h0)
      refine sh 1 ?_
      simp only [spec_PutLog.j1, if_true]
      exact ev (putR_no h).symm
theorem spec_PutLog_ev (l : List S50) (hl : l.length ≤ 1048576) : Ev (fun k => spec_PutLog.f k l) (if l.length ≤ 2000 then putR [] l else ([], false)) := by
  unfold spec_PutLog.f
  refine ite (fun h => ev (by rw [if_neg (by omega)])) (fun h => ?_)
  rw [if_pos (by omega)]
  exact spec_PutLog_loop l hl 0 (Nat.zero_le _) [] (by simp)
theorem impl_PutLog_loop (l : List S50) (hl : l.length ≤ 1048576) : ∀ n, n ≤ l.length → ∀ acc : List Int, acc.length ≤ 11 * n → Ev (fun k => impl_PutLog.l0 k acc l (l.length : Int) (n : Int)) (putR acc (l.drop n)) := by
  refine down ?_ ?_
  · intro acc ha
    refine sh 1 ?_
    simp only [impl_PutLog.l0, Int.lt_irrefl, if_false]
    refine ite (fun h => ev ?_) (fun h => ev ?_)
    · rw [List.drop_length]; unfold putR; rw [if_neg]; rintro ⟨_, h2⟩; simp [flat] at h2; omega
    · rw [List.drop_length]; unfold putR; rw [if_pos ⟨by simp [AllPut], by simp [flat]; omega⟩]; simp [flat]
  · intro n hn ih acc ha
    refine sh 1 ?_
    have hw : wrap64 ((n : Int) + 1) = ((n + 1 : Nat) : Int) := wsucc hn (by omega)
    simp only [impl_PutLog.l0, lt_cast hn, Int.natCast_nonneg, rdB_Event hn, hw, if_true]
    rw [drop_cons hn]
    generalize l[n] = e
    have hp := impl_PutEvent_ev e.f0 e.f1 e.f2
    unfold putEo at hp
    by_cases h : EvPut e.f0 e.f1 e.f2
    · rw [if_pos h] at hp
      refine bnd hp ?_
      have hlen := putE_length e.f0 e.f1 e.f2
      refine ite (fun h0 => absurd h0 (by omega)) (fun _ => ?_)
      refine ite (fun _ => ?_) (fun h0 => absurd (show acc.length + (putE e.f0 e.f1 e.f2).length < 140737488355328 by omega) h0)
      rw [putR_step h]
      exact ih _ (by simp only [List.length_append]; omega)
    · rw [if_neg h] at hp
      refine bnd hp ?_
      refine ite (fun _ => ?_) (fun h0 => absurd rfl h0)
      exact ev (putR_no h).symm
theorem impl_PutLog_ev (l : List S50) (hl : l.length ≤ 1048576) : Ev (fun k => impl_PutLog.f k l) (if l.length ≤ 2000 then putR [] l else ([], false)) := by
  unfold impl_PutLog.f
  refine ite (fun h => ev (by rw [if_neg (by omega)])) (fun h => ?_)
  rw [if_pos (by omega)]
  exact impl_PutLog_loop l hl 0 (Nat.zero_le _) [] (by simp)
theorem putR_length (l : List S50) : (if l.length ≤ 2000 then putR [] l else ([], false)).1.length ≤ 8000 := by
  split
  · unfold putR; split
    · next h => exact h.2
    · simp
  · simp

theorem draw_Tick (b : List Int) (hb : b.length ≤ 1048576) (i h : Int) (h0 : 0 ≤ i) (h1 : i ≤ (b.length : Int)) : Dr b (fun _ => True) (spec_l01DrawTick.f b i h) := by
  unfold spec_l01DrawTick.f
  refine (draw_Below b hb i h h0 h1 _).bind (fun r i h hq h0 h1 => ?_)
  refine (draw_Below b hb i h h0 h1 _).bind (fun r2 i h hq2 h0 h1 => ?_)
  refine (draw_PickInt b hb i h h0 h1 _ (by simp)).bind (fun r3 i h hq3 h0 h1 => ?_)
  exact Dr.now trivial h0 h1
theorem draw_Any (b : List Int) (hb : b.length ≤ 1048576) (i h : Int) (h0 : 0 ≤ i) (h1 : i ≤ (b.length : Int)) : Dr b (fun _ => True) (spec_l01DrawAny.f b i h) := by
  unfold spec_l01DrawAny.f
  refine (draw_Once b hb i h h0 h1 _).bind (fun r i h hq h0 h1 => ?_)
  split
  · refine (draw_PickInt b hb i h h0 h1 _ (by simp)).bind (fun r3 i h hq3 h0 h1 => ?_)
    exact Dr.now trivial h0 h1
  · refine (draw_Tick b hb i h h0 h1).bind (fun r3 i h hq3 h0 h1 => ?_)
    exact Dr.now trivial h0 h1
def DrE (b : List Int) (f : Option (Int × Int × Int × Int × Int)) : Prop := ∃ x y z i h, f = some (x, y, z, i, h) ∧ 0 ≤ i ∧ i ≤ (b.length : Int)
theorem DrE.now {b : List Int} {x y z i h : Int} (h0 : 0 ≤ i) (h1 : i ≤ (b.length : Int)) : DrE b (some (x, y, z, i, h)) := ⟨x, y, z, i, h, rfl, h0, h1⟩
theorem draw_Event (b : List Int) (hb : b.length ≤ 1048576) (i h : Int) (h0 : 0 ≤ i) (h1 : i ≤ (b.length : Int)) : DrE b (spec_l12DrawEvent.f b i h) := by
  unfold spec_l12DrawEvent.f
  refine (draw_Below b hb i h h0 h1 _).bind (fun r i h hq h0 h1 => ?_)
  refine (draw_Below b hb i h h0 h1 _).bind (fun r2 i h hq2 h0 h1 => ?_)
  refine (draw_Below b hb i h h0 h1 _).bind (fun r3 i h hq3 h0 h1 => ?_)
  refine (draw_Once b hb i h h0 h1 _).bind (fun r4 i h hq4 h0 h1 => ?_)
  split
  · refine (draw_Below b hb i h h0 h1 _).bind (fun r5 i h hq5 h0 h1 => ?_)
    split
    · refine (draw_PickInt b hb i h h0 h1 _ (by simp)).bind (fun r6 i h hq6 h0 h1 => ?_)
      exact DrE.now h0 h1
    · split
      · refine (draw_Any b hb i h h0 h1).bind (fun r6 i h hq6 h0 h1 => ?_)
        exact DrE.now h0 h1
      · split
        · refine (draw_Any b hb i h h0 h1).bind (fun r6 i h hq6 h0 h1 => ?_)
          exact DrE.now h0 h1
        · exact DrE.now h0 h1
  · exact DrE.now h0 h1
theorem sDL (k : Nat) (acc : List S50) (c n : Int) (b : List Int) (i h : Int) : spec_l12DrawLog.l0 (k + 1) acc c n b i h = if n < c then ((spec_l12DrawEvent.f b i h).bind fun q => ((spec_PutEvent.f k q.1 q.2.1 q.2.2.1).bind fun t => (if (t.length : Int) = 0 then ((spec_l01Once.f b q.2.2.2.1 q.2.2.2.2 20).bind fun o => (if o.1 = true then (if acc.length < 5864062014805 then (spec_l12DrawLog.l0 k (acc ++ [(⟨q.1, q.2.1, q.2.2.1⟩ : S50)]) c (wrap64 (n + 1)) b o.2.1 o.2.2) else (none)) else (if acc.length < 5864062014805 then (spec_l12DrawLog.l0 k (acc ++ [(⟨0, 0, 0⟩ : S50)]) c (wrap64 (n + 1)) b o.2.1 o.2.2) else (none)))) else (if acc.length < 5864062014805 then (spec_l12DrawLog.l0 k (acc ++ [(⟨q.1, q.2.1, q.2.2.1⟩ : S50)]) c (wrap64 (n + 1)) b q.2.2.2.1 q.2.2.2.2) else (none))))) else (some acc) := rfl
theorem draw_Log_loop (b : List Int) (hb : b.length ≤ 1048576) (c : Nat) (hc : c ≤ 2001) : ∀ n, n ≤ c → ∀ (acc : List S50) (i h : Int), acc.length = n → 0 ≤ i → i ≤ (b.length : Int) → ∃ r : List S50, r.length = c ∧ Ev (fun k => spec_l12DrawLog.l0 k acc (c : Int) (n : Int) b i h) r := by
  refine down ?_ ?_
  · intro acc i h ha _ _
    refine ⟨acc, ha, sh 1 ?_⟩
    simp only [sDL, Int.lt_irrefl, if_false]
    exact ev rfl
  · intro n hn ih acc i h ha h0 h1
    obtain ⟨x, y, z, i2, g2, he, h2, h3⟩ := draw_Event b hb i h h0 h1
    obtain ⟨o, i3, g3, ho, _, h4, h5⟩ := draw_Once b hb i2 g2 h2 h3 20
    have hp := spec_PutEvent_ev x y z
    have hw : wrap64 ((n : Int) + 1) = ((n + 1 : Nat) : Int) := wsucc hn (by omega)
    have hacc : acc.length < 5864062014805 := by omega
    have happ : ∀ v : S50, (acc ++ [v]).length = n + 1 := by intro v; simp [ha]
    by_cases hq : ((putEo x y z).length : Int) = 0
    · cases o with
      | true =>
        obtain ⟨r, hr, hev⟩ := ih (acc ++ [⟨x, y, z⟩]) i3 g3 (happ _) h4 h5
        refine ⟨r, hr, sh 1 ?_⟩
        simp only [sDL, lt_cast hn, if_true, he, Option.bind_some, hw, if_pos hacc]
        refine bnd hp ?_
        simp only [if_pos hq, ho, Option.bind_some, if_true]
        exact hev
      | false =>
        obtain ⟨r, hr, hev⟩ := ih (acc ++ [⟨0, 0, 0⟩]) i3 g3 (happ _) h4 h5
        refine ⟨r, hr, sh 1 ?_⟩
        simp only [sDL, lt_cast hn, if_true, he, Option.bind_some, hw, if_pos hacc]
        refine bnd hp ?_
        simp only [if_pos hq, ho, Option.bind_some, Bool.false_eq_true, if_false]
        exact hev
    · obtain ⟨r, hr, hev⟩ := ih (acc ++ [⟨x, y, z⟩]) i2 g2 (happ _) h2 h3
      refine ⟨r, hr, sh 1 ?_⟩
      simp only [sDL, lt_cast hn, if_true, he, Option.bind_some, hw, if_pos hacc]
      refine bnd hp ?_
      simp only [if_neg hq]
      exact hev
theorem draw_Log (l : List Int) (hl : l.length ≤ 1048576) : ∃ r : List S50, r.length ≤ 2001 ∧ Ev (fun k => spec_DrawPutLog.f k l) r := by
  obtain ⟨g, hg⟩ := draw_New l hl
  obtain ⟨s, hs, hs0, hs1⟩ := draw_Size l hl 60 (by omega)
  obtain ⟨n, i1, g1, hn, hq, h0, h1⟩ := draw_Below l hl 0 g (by omega) (by omega) s
  obtain ⟨o, i2, g2, ho, _, h2, h3⟩ := draw_Once l hl i1 g1 h0 h1 60
  have hns := hq.2.1 (by omega)
  have key : ∃ r : List S50, r.length ≤ 2001 ∧ Ev (fun k => spec_l12DrawLog.f k l) r := by
    cases o with
    | true =>
      obtain ⟨m, i3, g3, hm, hmq, h4, h5⟩ := draw_Below l hl i2 g2 h2 h3 2
      have hm2 := hmq.2.1 (by omega)
      obtain ⟨c, hc⟩ : ∃ c : Nat, 2000 + m = c := ⟨(2000 + m).toNat, by omega⟩
      have hw : wrap64 (2000 + m) = c := by rw [wid (by omega) (by omega)]; exact hc
      obtain ⟨r, hr, hev⟩ := draw_Log_loop l hl c (by omega) 0 (Nat.zero_le _) [] i3 g3 rfl h4 h5
      refine ⟨r, by omega, ?_⟩
      unfold spec_l12DrawLog.f
      refine bnd hg ?_
      simp only [Option.bind_some, hs, hn, ho, if_true, hm, hw]
      refine sh 1 ?_
      simp only [spec_l12DrawLog.j0]
      exact hev
    | false =>
      obtain ⟨c, rfl⟩ : ∃ c : Nat, n = c := ⟨n.toNat, by omega⟩
      obtain ⟨r, hr, hev⟩ := draw_Log_loop l hl c (by omega) 0 (Nat.zero_le _) [] i2 g2 rfl h2 h3
      refine ⟨r, by omega, ?_⟩
      unfold spec_l12DrawLog.f
      refine bnd hg ?_
      simp only [Option.bind_some, hs, hn, ho, Bool.false_eq_true, if_false]
      refine sh 1 ?_
      simp only [spec_l12DrawLog.j0]
      exact hev
  obtain ⟨r, hr, hev⟩ := key
  refine ⟨r, hr, ?_⟩
  unfold spec_DrawPutLog.f
  exact bnd hev (ev rfl)

def sumS (h x : Int) : Int := Int.tmod (wrap64 ((wrap64 (131 * h)) + (wrap64 x))) 1000003
theorem spec_Sum_loop (b : List Int) (hl : b.length ≤ 1048576) : ∀ n, n ≤ b.length → ∀ h, Ev (fun k => spec_LogSum.l0 k b h (n : Int)) ((b.drop n).foldl sumS h) := by
  refine down ?_ ?_
  · intro h
    refine sh 1 ?_
    simp only [spec_LogSum.l0, Int.lt_irrefl, if_false]
    exact ev (by simp)
  · intro n hn ih h
    refine sh 1 ?_
    simp only [spec_LogSum.l0, lt_cast hn, Int.natCast_nonneg, if_true, wsucc hn (show b.length ≤ 9223372036854775807 by omega), rd_get hn]
    rw [drop_cons hn, List.foldl_cons]
    exact ih _
theorem impl_Sum_loop (b : List Int) (hl : b.length ≤ 1048576) : ∀ n, n ≤ b.length → ∀ h, Ev (fun k => impl_LogSum.l0 k h b (b.length : Int) (n : Int)) ((b.drop n).foldl sumS h) := by
  refine down ?_ ?_
  · intro h
    refine sh 1 ?_
    simp only [impl_LogSum.l0, Int.lt_irrefl, if_false]
    exact ev (by simp)
  · intro n hn ih h
    refine sh 1 ?_
    simp only [impl_LogSum.l0, lt_cast hn, Int.natCast_nonneg, if_true, wsucc hn (show b.length ≤ 9223372036854775807 by omega), rd_get hn]
    rw [drop_cons hn, List.foldl_cons]
    exact ih _
theorem logSum_key (l : List S50) (hl : l.length ≤ 1048576) : ∃ r, Ev (fun k => spec_LogSum.f k l) r ∧ Ev (fun k => impl_LogSum.f k l) r := by
  have h1 := spec_PutLog_ev l hl
  have h2 := impl_PutLog_ev l hl
  have hr := putR_length l
  generalize (if l.length ≤ 2000 then putR [] l else ([], false)) = q at h1 h2 hr
  obtain ⟨b, ok⟩ := q
  simp only at hr
  refine ⟨if ok = true then b.foldl sumS 1 else -1, ?_, ?_⟩
  · unfold spec_LogSum.f
    refine bnd h1 ?_
    refine ite (fun h => ?_) (fun h => ev (by rw [if_neg h]))
    rw [if_pos h]; exact spec_Sum_loop b (by omega) 0 (Nat.zero_le _) 1
  · unfold impl_LogSum.f
    refine bnd h2 ?_
    refine ite (fun h => ?_) (fun h => ev (by rw [if_neg h]))
    rw [if_pos h]; exact impl_Sum_loop b (by omega) 0 (Nat.zero_le _) 1

/-- A number out of bytes: what is read and how many bytes it takes; c: how many were read so far, s: what the next group counts. -/
def dec : Nat → Nat → Int → Int → List Int → Option (Int × Nat)
  | 0, _, _, _, _ => none
  | _ + 1, _, _, _, [] => none
  | m + 1, c, s, x, v :: bs => if v < 128 then (if (v = 0 ∧ 0 < c) ∨ ¬ (x + v * s ≤ 1000000000) then none else some (x + v * s, c + 1)) else dec m (c + 1) (s * 128) (x + (v % 128) * s) bs
def outN (p : Nat) : Option (Int × Nat) → Int × Int
  | none => (0, -1)
  | some (x, c) => (x, (p + c : Nat))
def takeN (b : List Int) (at_ : Int) : Int × Int := if at_ < 0 then (0, -1) else if (b.length : Int) ≤ at_ then (0, -1) else outN at_.toNat (dec 5 0 1 0 (b.drop at_.toNat))
theorem drop_case {b : List Int} {n : Nat} (hn : n ≤ b.length) : (b.drop n = [] ∧ n = b.length) ∨ ∃ (h : n < b.length), b.drop n = b[n] :: b.drop (n + 1) := by
  rcases Nat.lt_or_ge n b.length with h | h
  · exact .inr ⟨h, drop_cons h⟩
  · exact .inl ⟨List.drop_eq_nil_of_le h, by omega⟩
theorem byte_of {b : List Int} (hb : ∀ x ∈ b, 0 ≤ x ∧ x ≤ 255) {n : Nat} (h : n < b.length) : 0 ≤ b[n] ∧ b[n] ≤ 255 := hb _ (List.getElem_mem h)
theorem impl_take_step (b : List Int) (hb : ∀ x ∈ b, 0 ≤ x ∧ x ≤ 255) (hl : b.length ≤ 1048576) (p : Nat) (m c : Nat) (s : Int) (hc : c < 5) (hs0 : 1 ≤ s) (hs : s ≤ 268435456)
    (ih : ∀ x : Int, 0 ≤ x → x < s * 128 → p + (c + 1) ≤ b.length → Ev (fun k => impl_TakeNumber.l0 k b ((p + (c + 1) : Nat) : Int) x (s * 128) ((c + 1 : Nat) : Int)) (outN p (dec m (c + 1) (s * 128) x (b.drop (p + (c + 1))))))
    (x : Int) (hx0 : 0 ≤ x) (hx : x < s) (hp : p + c ≤ b.length) : Ev (fun k => impl_TakeNumber.l0 k b ((p + c : Nat) : Int) x s (c : Int)) (outN p (dec (m + 1) c s x (b.drop (p + c)))) := by
  have e3 : Nat → wrap64 ((c : Int) + 1) = ((c + 1 : Nat) : Int) := fun _ => by rw [wid (by omega) (by omega)]; omega
  have es : Nat → wrap64 (s * 128) = s * 128 := fun _ => wid (by omega) (by omega)
  refine sh 2 ?_
  rcases drop_case hp with ⟨hd, he⟩ | ⟨h, hd⟩
  · have hge : decide (((p + c : Nat) : Int) < (b.length : Int)) = false := decide_eq_false (by omega)
    simp only [impl_TakeNumber.l0, impl_TakeNumber.j1, hge, if_pos (show (c : Int) < 5 by omega), Bool.false_eq_true, if_false, hd, dec]
    exact ev rfl
  · have hge : decide (((p + c : Nat) : Int) < (b.length : Int)) = true := decide_eq_true (by omega)
    obtain ⟨hv0, hv1⟩ := byte_of hb h
    have hrd : rd b ((p + c : Nat) : Int) = b[p + c] := rd_get h
    rw [hd, dec]
    generalize b[p + c] = v at hrd hv0 hv1 ⊢
    have hw : Nat → wrap64 v = v := fun _ => wid (by omega) (by omega)
    have hm : Int.tmod v 128 = v % 128 := Int.tmod_eq_emod_of_nonneg hv0
    have hmul : (v % 128) * s ≤ 127 * s := Int.mul_le_mul_of_nonneg_right (by omega) (by omega)
    have hmul0 : 0 ≤ (v % 128) * s := Int.mul_nonneg (by omega) (by omega)
    have hmw : Nat → wrap64 ((v % 128) * s) = (v % 128) * s := fun _ => wid (by omega) (by omega)
    have hsum : Nat → wrap64 (x + (v % 128) * s) = x + (v % 128) * s := fun _ => wid (by omega) (by omega)
    have e2 : Nat → wrap64 (((p + c : Nat) : Int) + 1) = ((p + (c + 1) : Nat) : Int) := fun _ => by rw [wid (by omega) (by omega)]; omega
    simp only [impl_TakeNumber.l0, impl_TakeNumber.j1, hge, if_pos (show (c : Int) < 5 by omega), hrd, hw 0, hm, hmw 0, hsum 0, e2 0, e3 0, es 0, Int.natCast_nonneg, lt_cast h, impl_TickOk_eq, Option.bind_some, decide_eq_true_eq, Bool.not_eq_true', Bool.not_eq_true, decide_eq_false_iff_not, beq_iff_eq, bne_iff_ne, ne_eq, Bool.false_eq_true, Bool.true_eq_false, eq_self_iff_true, if_true, if_false, reduceIte, not_true_eq_false, not_false_eq_true]
    refine ite (fun h1 => ?_) (fun h1 => ?_)
    · rw [if_neg (show ¬ v < 128 by omega)]
      exact ih (x + (v % 128) * s) (by omega) (by omega) (by omega)
    · rw [if_pos (show v < 128 by omega)]
      have hv : v % 128 = v := by omega
      rw [hv] at hmul0 hmul ⊢
      repeat' (first | refine ite (fun _ => ?_) (fun _ => ?_) | refine ev ?_)
      all_goals first | (rw [if_pos (by omega)]; rfl) | (rw [if_neg (by omega)]; rfl)
theorem impl_take_at (b : List Int) (hb : ∀ x ∈ b, 0 ≤ x ∧ x ≤ 255) (hl : b.length ≤ 1048576) (p : Nat) (hp : p ≤ b.length) : Ev (fun k => impl_TakeNumber.l0 k b ((p + 0 : Nat) : Int) 0 1 ((0 : Nat) : Int)) (outN p (dec 5 0 1 0 (b.drop (p + 0)))) := by
  have s5 : ∀ x : Int, Ev (fun k => impl_TakeNumber.l0 k b ((p + 5 : Nat) : Int) x 34359738368 ((5 : Nat) : Int)) (outN p (dec 0 5 34359738368 x (b.drop (p + 5)))) := by
    intro x; refine sh 2 ?_
    simp only [impl_TakeNumber.l0, impl_TakeNumber.j1, if_neg (show ¬ ((5 : Nat) : Int) < 5 by omega), Bool.false_eq_true, if_false]
    exact ev rfl
  have s4 := impl_take_step b hb hl p 0 4 268435456 (by omega) (by omega) (by omega) (fun x _ _ _ => s5 x)
  have s3 := impl_take_step b hb hl p 1 3 2097152 (by omega) (by omega) (by omega) s4
  have s2 := impl_take_step b hb hl p 2 2 16384 (by omega) (by omega) (by omega) s3
  have s1 := impl_take_step b hb hl p 3 1 128 (by omega) (by omega) (by omega) s2
  exact impl_take_step b hb hl p 4 0 1 (by omega) (by omega) (by omega) s1 0 (by omega) (by omega) (by omega)
theorem impl_TakeNumber_ev (b : List Int) (hb : ∀ x ∈ b, 0 ≤ x ∧ x ≤ 255) (hl : b.length ≤ 1048576) (a : Int) (ha : -9223372036854775808 ≤ a ∧ a ≤ 9223372036854775807) : Ev (fun k => impl_TakeNumber.f k b a) (takeN b a) := by
  unfold impl_TakeNumber.f takeN
  refine ite (fun h => ev (by rw [if_pos h])) (fun h => ?_)
  rw [if_neg h]
  by_cases h2 : (b.length : Int) ≤ a
  · rw [if_pos h2]
    refine sh 2 ?_
    simp only [impl_TakeNumber.l0, impl_TakeNumber.j1, decide_eq_false (show ¬ a < (b.length : Int) by omega), Bool.false_eq_true, if_false, if_pos (show (0 : Int) < 5 by omega)]
    exact ev rfl
  · rw [if_neg h2]
    have := impl_take_at b hb hl a.toNat (by omega)
    rw [show ((a.toNat + 0 : Nat) : Int) = a by omega] at this
    exact this

theorem dec_bound : ∀ (m c : Nat) (s x : Int) (l : List Int) (y : Int) (c' : Nat), dec m c s x l = some (y, c') → c < c' ∧ c' ≤ c + l.length := by
  intro m
  induction m with
  | zero => intro c s x l y c' h; simp [dec] at h
  | succ m ih =>
    intro c s x l y c' h
    cases l with
    | nil => simp [dec] at h
    | cons v bs =>
      unfold dec at h
      split at h
      · split at h
        · cases h
        · injection h with h; injection h with _ h; simp; omega
      · have := ih _ _ _ _ _ _ h; simp; omega
theorem takeN_range (b : List Int) (hl : b.length ≤ 1048576) (a : Int) : -1 ≤ (takeN b a).2 ∧ (takeN b a).2 ≤ b.length := by
  unfold takeN
  split
  · simp
  · split
    · simp
    · next h h2 =>
      cases hd : dec 5 0 1 0 (b.drop a.toNat) with
      | none => simp [outN]
      | some q =>
        obtain ⟨y, c⟩ := q
        have := dec_bound _ _ _ _ _ _ _ hd
        simp [outN] at this ⊢
        omega
def takeE (b : List Int) (a : Int) : Int × Int × Int × Int :=
  if a < 0 ∨ (b.length : Int) ≤ a then (0, 0, 0, -1) else if rd b a > 11 then (0, 0, 0, -1) else
    if (takeN b (a + 1)).2 < 0 then (0, 0, 0, -1) else if (takeN b (takeN b (a + 1)).2).2 < 0 then (0, 0, 0, -1) else
      (rd b a, (takeN b (a + 1)).1, (takeN b (takeN b (a + 1)).2).1, (takeN b (takeN b (a + 1)).2).2)
theorem rd_byte {b : List Int} (hb : ∀ x ∈ b, 0 ≤ x ∧ x ≤ 255) (a : Int) : 0 ≤ rd b a ∧ rd b a ≤ 255 := by
  unfold rd
  rcases Nat.lt_or_ge a.toNat b.length with h | h
  · rw [getD_get _ h]; exact hb _ (List.getElem_mem h)
  · rw [List.getD_eq_getElem?_getD, List.getElem?_eq_none h]; simp
theorem impl_TakeEvent_ev (b : List Int) (hb : ∀ x ∈ b, 0 ≤ x ∧ x ≤ 255) (hl : b.length ≤ 1048576) (a : Int) (ha : -9223372036854775808 ≤ a ∧ a ≤ 9223372036854775807) : Ev (fun k => impl_TakeEvent.f k b a) (takeE b a) := by
  unfold impl_TakeEvent.f takeE
  have hwl : wrap64 ((b.length : Int) - 1) = (b.length : Int) - 1 := wid (by omega) (by omega)
  simp only [in_eq, hwl, Option.bind_some, decide_eq_true_eq]
  clear hwl
  by_cases h : a < 0 ∨ (b.length : Int) ≤ a
  · rw [if_pos h]
    refine sh 1 ?_
    simp only [impl_TakeEvent.j0, if_true]
    repeat' (first | refine ite (fun _ => ?_) (fun _ => ?_) | refine ev ?_)
    all_goals first | rfl | omega
  · rw [if_neg h]
    obtain ⟨hr0, hr1⟩ := rd_byte hb a
    have hw : wrap64 (rd b a) = rd b a := wid (by omega) (by omega)
    have hw1 : wrap64 (a + 1) = a + 1 := wid (by omega) (by omega)
    refine sh 1 ?_
    simp only [impl_TakeEvent.j0, if_pos (show 0 ≤ a ∧ a ≤ (b.length : Int) - 1 by omega), if_pos (show 0 ≤ a by omega), if_pos (show a < (b.length : Int) by omega), hw, hw1, decide_eq_true_eq]
    clear hw hw1
    refine ite (fun h1 => ev (by rw [if_pos h1])) (fun h1 => ?_)
    rw [if_neg h1]
    refine bnd (impl_TakeNumber_ev b hb hl _ (by omega)) ?_
    have ht := takeN_range b hl (a + 1)
    refine ite (fun h2 => ev (by rw [if_pos h2])) (fun h2 => ?_)
    rw [if_neg h2]
    refine bnd (impl_TakeNumber_ev b hb hl _ (by omega)) ?_
    refine ite (fun h3 => ev (by rw [if_pos h3])) (fun h3 => ev (by rw [if_neg h3]))

theorem takeE_range (b : List Int) (hl : b.length ≤ 1048576) (a : Int) (h : ¬ (takeE b a).2.2.2 < 0) : 0 ≤ a ∧ a < (takeE b a).2.2.2 ∧ (takeE b a).2.2.2 ≤ b.length := by
  unfold takeE at h ⊢
  split at h
  · simp at h
  · next h1 =>
    split at h
    · simp at h
    · next h2 =>
      split at h
      · simp at h
      · next h3 =>
        split at h
        · simp at h
        · next h4 =>
          rw [if_neg h1, if_neg h2, if_neg h3, if_neg h4]
          have key : ∀ x, ¬ (takeN b x).2 < 0 → x < (takeN b x).2 := by
            intro x hx
            unfold takeN at hx ⊢
            split at hx
            · simp at hx
            · next g1 =>
              split at hx
              · simp at hx
              · next g2 =>
                rw [if_neg g1, if_neg g2]
                cases hd : dec 5 0 1 0 (b.drop x.toNat) with
                | none => rw [hd] at hx; simp [outN] at hx
                | some q =>
                  obtain ⟨y, c⟩ := q
                  have := dec_bound _ _ _ _ _ _ _ hd
                  simp only [outN]
                  omega
          have k1 := key _ h3
          have k2 := key _ h4
          have k3 := takeN_range b hl (takeN b (a + 1)).2
          simp only
          omega
theorem dec_putB : ∀ (m c : Nat) (s acc x : Int) (rest : List Int), 0 ≤ x → x < 128 * 128 ^ m → acc + x * s ≤ 1000000000 → (0 < c → 0 < x) → dec (m + 1) c s acc (putB m x ++ rest) = some (acc + x * s, c + (putB m x).length) := by
  intro m
  induction m with
  | zero =>
    intro c s acc x rest h0 h1 hb hc
    have h2 : x < 128 := by simpa using h1
    simp only [putB, List.cons_append, List.nil_append, dec, if_pos h2, List.length_singleton]
    rw [if_neg]
    rintro (⟨h, h3⟩ | h)
    · have := hc h3; omega
    · exact h hb
  | succ m ih =>
    intro c s acc x rest h0 h1 hb hc
    rw [putB]
    split
    · rename_i hx
      have e : (x % 128 + 128) % 128 = x % 128 := by omega
      have hs : acc + x % 128 * s + x / 128 * (s * 128) = acc + x * s := by
        have h3 : x % 128 + 128 * (x / 128) = x := Int.emod_add_mul_ediv x 128
        have h4 : x / 128 * (s * 128) = 128 * (x / 128) * s := by rw [Int.mul_comm s 128, ← Int.mul_assoc, Int.mul_comm (x / 128) 128]
        rw [h4, Int.add_assoc, ← Int.add_mul, h3]
      have hp : x / 128 < 128 * 128 ^ m := by
        rw [Int.pow_succ] at h1
        generalize (128 : Int) ^ m = P at h1 ⊢
        omega
      simp only [List.cons_append, dec, if_neg (show ¬ (x % 128 + 128 < 128) by omega), e]
      rw [ih (c + 1) (s * 128) (acc + x % 128 * s) (x / 128) rest (by omega) hp (by rw [hs]; exact hb) (by omega), hs]
      simp only [List.length_cons, Option.some.injEq, Prod.mk.injEq, true_and]
      omega
    · rename_i hx
      simp only [List.cons_append, List.nil_append, dec, if_pos (show x < 128 by omega), List.length_singleton]
      rw [if_neg]
      rintro (⟨h, h3⟩ | h)
      · have := hc h3; omega
      · exact h hb
theorem dec_cut : ∀ (m c : Nat) (s acc x : Int) (j : Nat), j < (putB m x).length → dec (m + 1) c s acc ((putB m x).take j) = none := by
  intro m
  induction m with
  | zero =>
    intro c s acc x j hj
    obtain rfl : j = 0 := by simp [putB] at hj; omega
    simp [dec]
  | succ m ih =>
    intro c s acc x j hj
    cases j with
    | zero => simp [dec]
    | succ j =>
      rw [putB] at hj ⊢
      split
      · rename_i hx
        rw [if_pos hx] at hj
        simp only [List.take_succ_cons, dec, if_neg (show ¬ (x % 128 + 128 < 128) by omega)]
        exact ih _ _ _ _ j (by simpa using hj)
      · rename_i hx
        rw [if_neg hx] at hj
        simp at hj
theorem lt_of_drop {α : Type} {b t : List α} {p : Nat} (h : b.drop p = t) (ht : 0 < t.length) : p < b.length := by
  subst h; simp at ht; omega
theorem takeN_put {b rest : List Int} {p : Nat} {x : Int} (h0 : 0 ≤ x) (h1 : x ≤ 1000000000) (h : b.drop p = putN x ++ rest) : takeN b (p : Int) = (x, ((p + (putN x).length : Nat) : Int)) := by
  have hl := putN_length x
  have hp := lt_of_drop h (by simp; omega)
  unfold takeN
  rw [if_neg (by omega), if_neg (by omega), Int.toNat_natCast, h]
  unfold putN at hl ⊢
  rw [dec_putB 4 0 1 0 x rest h0 (by omega) (by omega) (by omega)]
  simp [outN]
theorem takeN_cut {b : List Int} {p j : Nat} {x : Int} (hj : j < (putN x).length) (h : b.drop p = (putN x).take j) : (takeN b (p : Int)).2 < 0 := by
  unfold takeN
  rw [if_neg (by omega)]
  split
  · show (-1 : Int) < 0; omega
  · rw [Int.toNat_natCast, h]
    unfold putN
    rw [dec_cut 4 0 1 0 x j hj]
    show (-1 : Int) < 0; omega
theorem drop_more {α : Type} {b x y : List α} {p : Nat} (h : b.drop p = x ++ y) : b.drop (p + x.length) = y := by
  rw [← List.drop_drop, h, List.drop_left]
theorem rd_drop {b t : List Int} {p : Nat} {a : Int} (h : b.drop p = a :: t) : rd b (p : Int) = a := by
  have hp := lt_of_drop h (by simp)
  rw [rd_get hp]
  rw [drop_cons hp] at h
  injection h
theorem takeE_put {b rest : List Int} {p : Nat} {x y z : Int} (hE : EvPut x y z) (h : b.drop p = putE x y z ++ rest) : takeE b (p : Int) = (x, y, z, ((p + (putE x y z).length : Nat) : Int)) := by
  obtain ⟨⟨a0, a1⟩, ⟨b0, b1⟩, c0, c1⟩ := hE
  have hlen : (putE x y z).length = 1 + (putN y).length + (putN z).length := by simp [putE]; omega
  have h' : b.drop p = [x] ++ (putN y ++ (putN z ++ rest)) := by rw [h]; simp [putE]
  have hp := lt_of_drop h' (by simp)
  have hr := rd_drop (t := putN y ++ (putN z ++ rest)) (by simpa using h')
  have h1 : b.drop (p + 1) = putN y ++ (putN z ++ rest) := drop_more h'
  have h2 := drop_more h1
  have t1 := takeN_put b0 b1 h1
  have t2 := takeN_put c0 c1 h2
  have hc : (p : Int) + 1 = ((p + 1 : Nat) : Int) := by omega
  unfold takeE
  simp only [hc, t1, t2, hr]
  rw [if_neg (by omega), if_neg (by omega), if_neg (by omega), if_neg (by omega), hlen]
  simp only [Prod.mk.injEq, true_and]
  omega
theorem takeE_cut {b : List Int} {p j : Nat} {x y z : Int} (hE : EvPut x y z) (hj : j < (putE x y z).length) (h : b.drop p = (putE x y z).take j) : (takeE b (p : Int)).2.2.2 < 0 := by
  obtain ⟨⟨a0, a1⟩, ⟨b0, b1⟩, c0, c1⟩ := hE
  have hneg : (-1 : Int) < 0 := by omega
  have hc : (p : Int) + 1 = ((p + 1 : Nat) : Int) := by omega
  unfold takeE
  cases j with
  | zero =>
    have : b.length ≤ p := by
      rcases Nat.lt_or_ge p b.length with h3 | h3
      · rw [drop_cons h3] at h; cases h
      · exact h3
    rw [if_pos (by omega)]; exact hneg
  | succ i =>
    have hlen : (putE x y z).length = 1 + (putN y).length + (putN z).length := by simp [putE]; omega
    have h' : b.drop p = [x] ++ (putN y ++ putN z).take i := by rw [h]; simp [putE]
    have h1 := drop_more h'
    rw [List.length_singleton] at h1
    split
    · exact hneg
    · split
      · exact hneg
      · simp only [hc]
        by_cases hi : i < (putN y).length
        · rw [List.take_append_of_le_length (by omega)] at h1
          rw [if_pos (takeN_cut hi h1)]; exact hneg
        · rw [List.take_append, List.take_of_length_le (show (putN y).length ≤ i by omega)] at h1
          have t1 := takeN_put b0 b1 h1
          have h2 := drop_more h1
          split
          · exact hneg
          · simp only [t1]
            rw [if_pos (takeN_cut (by omega) h2)]; exact hneg
theorem putB_bytes : ∀ (m : Nat) (x : Int), 0 ≤ x → x < 128 * 128 ^ m → ∀ v ∈ putB m x, 0 ≤ v ∧ v ≤ 255 := by
  intro m
  induction m with
  | zero =>
    intro x h0 h1 v hv
    simp only [putB, List.mem_singleton] at hv
    subst hv
    have h2 : v < 128 := by simpa using h1
    omega
  | succ m ih =>
    intro x h0 h1 v hv
    rw [putB] at hv
    have hp : x / 128 < 128 * 128 ^ m := by
      rw [Int.pow_succ] at h1
      generalize (128 : Int) ^ m = P at h1 ⊢
      omega
    split at hv
    · rcases List.mem_cons.1 hv with rfl | hv
      · omega
      · exact ih _ (by omega) hp v hv
    · simp only [List.mem_singleton] at hv
      subst hv; omega
theorem flat_bytes {l : List S50} (h : AllPut l) : ∀ v ∈ flat l, 0 ≤ v ∧ v ≤ 255 := by
  intro v hv
  unfold flat at hv
  obtain ⟨e, he, hv⟩ := List.mem_flatMap.1 hv
  obtain ⟨⟨a0, a1⟩, ⟨b0, b1⟩, c0, c1⟩ := h e he
  unfold putE at hv
  rcases List.mem_cons.1 hv with rfl | hv
  · omega
  · rcases List.mem_append.1 hv with hv | hv
    · exact putB_bytes 4 _ b0 (by omega) v hv
    · exact putB_bytes 4 _ c0 (by omega) v hv
theorem flat_long (l : List S50) : l.length ≤ (flat l).length := by
  induction l with
  | nil => simp
  | cons e l ih =>
    rw [flat_cons]
    have := putE_length e.f0 e.f1 e.f2
    simp; omega
theorem flat_append (l m : List S50) : flat (l ++ m) = flat l ++ flat m := by simp [flat]
theorem most_loop (b : List Int) (hb : ∀ x ∈ b, 0 ≤ x ∧ x ≤ 255) (hl : b.length ≤ 1048576) (tail : List Int) : ∀ (l acc : List S50) (p : Nat), AllPut l → p ≤ b.length → b.drop p = flat l ++ tail → acc.length + l.length ≤ 2000 → (takeE b ((p + (flat l).length : Nat) : Int)).2.2.2 < 0 →
    Ev (fun k => impl_TakeMost.l0 k b acc (p : Int)) (acc ++ l, ((p + (flat l).length : Nat) : Int)) := by
  intro l
  induction l with
  | nil =>
    intro acc p _ hp _ ha hend
    simp only [flat, List.flatMap_nil, List.length_nil, Nat.add_zero] at hend
    refine Ev.step (fun k => impl_TakeMost.l0_s k _ _ _) ?_
    refine ite (fun h => ?_) (fun h => ev (by simp [flat]))
    refine bnd (impl_TakeEvent_ev b hb hl _ (by omega)) ?_
    simp only [if_pos hend]
    exact ev (by simp [flat])
  | cons e l ih =>
    intro acc p hA hp hd ha hend
    rw [flat_cons, List.append_assoc] at hd
    have hE : EvPut e.f0 e.f1 e.f2 := hA e List.mem_cons_self
    have ht := takeE_put hE hd
    have hd2 := drop_more hd
    have hlen : (flat (e :: l)).length = (putE e.f0 e.f1 e.f2).length + (flat l).length := by rw [flat_cons]; simp
    rw [hlen, ← Nat.add_assoc] at hend ⊢
    have hpl : p + (putE e.f0 e.f1 e.f2).length ≤ b.length := by
      have := congrArg List.length hd
      simp only [List.length_drop, List.length_append] at this
      have := putE_length e.f0 e.f1 e.f2
      omega
    have hi := ih (acc ++ [e]) (p + (putE e.f0 e.f1 e.f2).length) (fun x hx => hA x (List.mem_cons_of_mem _ hx)) hpl hd2 (by simp at ha ⊢; omega) hend
    refine Ev.step (fun k => impl_TakeMost.l0_s k _ _ _) ?_
    simp only [List.length_cons] at ha
    refine ite (fun h => ?_) (fun h => absurd (show (acc.length : Int) < 2000 by omega) h)
    refine bnd (impl_TakeEvent_ev b hb hl _ (by omega)) ?_
    rw [ht]
    simp only
    simp only [if_neg (show ¬ ((p + (putE e.f0 e.f1 e.f2).length : Nat) : Int) < 0 by omega), if_pos (show acc.length < 5864062014805 by omega)]
    exact eqv hi (by simp)
theorem cut_flat : ∀ (l : List S50) (c : Nat), c ≤ (flat l).length → ∃ l1 l2 tail, l = l1 ++ l2 ∧ (flat l).take c = flat l1 ++ tail ∧ c = (flat l1).length + tail.length ∧ ((l2 = [] ∧ tail = []) ∨ ∃ e l3 j, l2 = e :: l3 ∧ tail = (putE e.f0 e.f1 e.f2).take j ∧ j < (putE e.f0 e.f1 e.f2).length) := by
  intro l
  induction l with
  | nil =>
    intro c hc
    simp [flat] at hc
    subst hc
    exact ⟨[], [], [], rfl, by simp [flat], by simp [flat], .inl ⟨rfl, rfl⟩⟩
  | cons e l ih =>
    intro c hc
    rw [flat_cons] at hc ⊢
    by_cases h : c < (putE e.f0 e.f1 e.f2).length
    · refine ⟨[], e :: l, (putE e.f0 e.f1 e.f2).take c, rfl, ?_, ?_, .inr ⟨e, l, c, rfl, rfl, h⟩⟩
      · rw [List.take_append_of_le_length (by omega)]; simp [flat]
      · simp [flat]; omega
    · obtain ⟨l1, l2, tail, h1, h2, h3, h4⟩ := ih (c - (putE e.f0 e.f1 e.f2).length) (by simp at hc; omega)
      refine ⟨e :: l1, l2, tail, by rw [h1]; rfl, ?_, ?_, h4⟩
      · rw [List.take_append, List.take_of_length_le (by omega), h2, flat_cons, List.append_assoc]
      · rw [flat_cons]; simp; omega

theorem sameEvents_ev (l : List S50) (hl : l.length ≤ 1048576) : Ev (fun k => laws_sameEvents.f k l l) true := by
  unfold laws_sameEvents.f
  simp only [if_true]
  refine (down (L := l.length) (P := fun n => Ev (fun k => laws_sameEvents.l0 k l l (n : Int)) true) ?_ ?_) 0 (Nat.zero_le _)
  · refine sh 1 ?_
    simp only [laws_sameEvents.l0, Int.lt_irrefl, if_false]
    exact ev rfl
  · intro n hn ih
    refine sh 1 ?_
    simp only [laws_sameEvents.l0, lt_cast hn, Int.natCast_nonneg, if_true, wsucc hn (show l.length ≤ 9223372036854775807 by omega), beq_self_eq_true, Bool.not_true, Bool.or_self, Bool.false_eq_true, if_false]
    exact ih
theorem sameBytes_ev (l : List Int) (hl : l.length ≤ 1048576) : Ev (fun k => laws_sameBytes.f k l l) true := by
  unfold laws_sameBytes.f
  simp only [if_true]
  refine (down (L := l.length) (P := fun n => Ev (fun k => laws_sameBytes.l0 k l l (n : Int)) true) ?_ ?_) 0 (Nat.zero_le _)
  · refine sh 1 ?_
    simp only [laws_sameBytes.l0, Int.lt_irrefl, if_false]
    exact ev rfl
  · intro n hn ih
    refine sh 1 ?_
    simp only [laws_sameBytes.l0, lt_cast hn, Int.natCast_nonneg, if_true, wsucc hn (show l.length ≤ 9223372036854775807 by omega)]
    exact ih
theorem at_ok (l : List Int) (hl : l.length ≤ 1048576) (hb : ∀ y ∈ l, 0 ≤ y ∧ y ≤ 255) (i : Nat) (hi : i ≤ 100) : ∃ t, laws_at.f l (i : Int) = some t ∧ 0 ≤ t ∧ t ≤ 255 := by
  unfold laws_at.f
  by_cases h : (i : Int) < (l.length : Int)
  · rw [if_pos h, if_pos (by omega)]
    have hr := rd_byte hb (i : Int)
    refine ⟨_, rfl, ?_⟩
    rw [wid (by omega) (by omega)]; exact hr
  · rw [if_neg h]
    have e1 : wrap64 ((i : Int) * 13) = (i : Int) * 13 := wid (by omega) (by omega)
    have e2 : wrap64 ((l.length : Int) * 5) = (l.length : Int) * 5 := wid (by omega) (by omega)
    have e3 : wrap64 ((i : Int) * 13 + (l.length : Int) * 5) = (i : Int) * 13 + (l.length : Int) * 5 := wid (by omega) (by omega)
    rw [e1, e2, e3]
    have h1 := Int.tmod_nonneg 256 (show 0 ≤ (i : Int) * 13 + (l.length : Int) * 5 by omega)
    have h2 := Int.tmod_lt_of_pos ((i : Int) * 13 + (l.length : Int) * 5) (show (0 : Int) < 256 by omega)
    exact ⟨_, rfl, h1, by omega⟩
theorem whole_take (r : List S50) (hA : AllPut r) (hr : r.length ≤ 2000) (hl : (flat r).length ≤ 8000) : Ev (fun k => impl_TakeMost.f k (flat r)) (r, ((flat r).length : Int)) := by
  unfold impl_TakeMost.f
  simp only [if_neg (show ¬ ((flat r).length : Int) > 8000 by omega)]
  have h := most_loop (flat r) (flat_bytes hA) (by omega) [] r [] 0 hA (Nat.zero_le _) (by simp) (by simpa using hr) (by
    unfold takeE; rw [if_pos (by omega)]; show (-1 : Int) < 0; omega)
  exact eqv h (by simp)
theorem part_take (r : List S50) (hA : AllPut r) (hr : r.length ≤ 2000) (hl : (flat r).length ≤ 8000) (c : Nat) (hc : c ≤ (flat r).length) :
    ∃ l1 l2, r = l1 ++ l2 ∧ Ev (fun k => impl_TakeMost.f k ((flat r).take c)) (l1, ((flat l1).length : Int)) ∧ (flat l1).length ≤ c ∧ (l2 = [] ∨ c < (flat l1).length + 11) := by
  obtain ⟨l1, l2, tail, h1, h2, h3, h4⟩ := cut_flat r c hc
  refine ⟨l1, l2, h1, ?_, by omega, ?_⟩
  · have hA1 : AllPut l1 := fun e he => hA e (by rw [h1]; exact List.mem_append_left _ he)
    have hl1 : l1.length ≤ 2000 := by rw [h1] at hr; simp at hr; omega
    have hby : ∀ x ∈ (flat r).take c, 0 ≤ x ∧ x ≤ 255 := fun x hx => flat_bytes hA x (List.mem_of_mem_take hx)
    have hlen : ((flat r).take c).length = c := by rw [List.length_take]; omega
    unfold impl_TakeMost.f
    simp only [if_neg (show ¬ (((flat r).take c).length : Int) > 8000 by rw [hlen]; omega)]
    have h := most_loop ((flat r).take c) hby (by omega) tail l1 [] 0 hA1 (Nat.zero_le _) (by simpa using h2) (by simpa using hl1) (by
      have hd : ((flat r).take c).drop (0 + (flat l1).length) = tail := drop_more (p := 0) (by simpa using h2)
      rcases h4 with ⟨_, ht⟩ | ⟨e, l3, j, he, ht, hj⟩
      · have : c = (flat l1).length := by rw [ht] at h3; simpa using h3
        unfold takeE; rw [if_pos (by rw [hlen]; omega)]; show (-1 : Int) < 0; omega
      · have hE : EvPut e.f0 e.f1 e.f2 := hA e (by rw [h1, he]; simp)
        exact takeE_cut hE hj (by rw [hd, ht]))
    exact eqv h (by simp)
  · rcases h4 with ⟨h5, _⟩ | ⟨e, l3, j, he, ht, hj⟩
    · exact .inl h5
    · refine .inr ?_
      have := putE_length e.f0 e.f1 e.f2
      have : tail.length ≤ j := by rw [ht, List.length_take]; omega
      omega
theorem pure_holds : PureOf := by
  intro l hl
  refine Ev.rounds (g := fun k => laws_FnBytes.f k l) ?_
  unfold laws_FnBytes.f laws_big.f
  simp only [Option.bind_some, decide_eq_true_eq]
  refine ite (fun h => ev rfl) (fun h => ?_)
  have hb : l.length ≤ 1048576 := by omega
  have hby : ∀ y ∈ l, 0 ≤ y ∧ y ≤ 255 := fun y hy => hl.2 y hy
  obtain ⟨r, hr, hdraw⟩ := draw_Log l hb
  refine bnd hdraw ?_
  have h1 := spec_PutLog_ev r (by omega)
  have h2 := impl_PutLog_ev r (by omega)
  obtain ⟨s, hs1, hs2⟩ := logSum_key r (by omega)
  obtain ⟨t0, ht0, t00, t01⟩ := at_ok l hb hby 0 (by omega)
  obtain ⟨t1, ht1, t10, t11⟩ := at_ok l hb hby 1 (by omega)
  have head : ∀ v : List Int × Bool, v.1.length ≤ 8000 → Ev (fun k => laws_FnBytes.j0 k l r v.2 v.1 false) true → Ev (fun k => spec_PutLog.f k r) v → Ev (fun k => impl_PutLog.f k r) v → Ev (fun k => (spec_PutLog.f k r).bind fun bt350 => ((impl_PutLog.f k r).bind fun bt354 => (if (bt354.2 != bt350.2) = true then (laws_FnBytes.j0 k l r bt350.2 bt354.1 true) else ((laws_sameBytes.f k bt354.1 bt350.1).bind fun t358 => (if t358 = true then ((impl_LogSum.f k r).bind fun t359 => ((spec_LogSum.f k r).bind fun t360 => (laws_FnBytes.j0 k l r bt350.2 bt354.1 (t359 != t360)))) else (laws_FnBytes.j0 k l r bt350.2 bt354.1 true)))))) true := by
    intro v hv hj g1 g2
    refine bnd g1 (bnd g2 ?_)
    simp only [bne_self_eq_false, Bool.false_eq_true, if_false]
    refine bnd (sameBytes_ev v.1 (by omega)) ?_
    simp only [if_true]
    refine bnd hs2 (bnd hs1 ?_)
    simp only [bne_self_eq_false]
    exact hj
  by_cases hc : r.length ≤ 2000 ∧ AllPut r ∧ (flat r).length ≤ 8000
  · obtain ⟨c1, c2, c3⟩ := hc
    have hv : (if r.length ≤ 2000 then putR [] r else ([], false)) = (flat r, true) := by
      rw [if_pos c1, putR, if_pos ⟨c2, by simpa using c3⟩, List.nil_append]
    rw [hv] at h1 h2
    refine head (flat r, true) c3 ?_ h1 h2
    refine sh 1 ?_
    simp only [laws_FnBytes.j0, Bool.false_eq_true, if_false, if_true]
    refine bnd (b := (r, true)) ?_ ?_
    · unfold impl_TakeLog.f
      refine bnd (whole_take r c2 c1 c3) ?_
      simp only [if_true]
      exact ev rfl
    · simp only [if_true]
      refine bnd (sameEvents_ev r (by omega)) ?_
      refine sh 1 ?_
      have e0 : wrap64 (((flat r).length : Int) + 1) = (((flat r).length + 1 : Nat) : Int) := (wid (by omega) (by omega)).trans (by omega)
      have e1 : wrap64 (1 + t1) = 1 + t1 := wid (by omega) (by omega)
      have hm0 : 0 ≤ t0 * (1 + t1) := Int.mul_nonneg t00 (by omega)
      have hm1 : t0 * (1 + t1) ≤ 255 * 256 := Int.mul_le_mul t01 (by omega) (by omega) (by omega)
      have e2 : wrap64 (t0 * (1 + t1)) = t0 * (1 + t1) := wid (by omega) (by omega)
      have q0 := Int.tmod_nonneg (((flat r).length + 1 : Nat) : Int) hm0
      have q1 := Int.tmod_lt_of_pos (t0 * (1 + t1)) (show (0 : Int) < (((flat r).length + 1 : Nat) : Int) by omega)
      have ht0' : laws_at.f l 0 = some t0 := ht0
      have ht1' : laws_at.f l 1 = some t1 := ht1
      simp only [laws_FnBytes.j1, Bool.not_true, Bool.false_eq_true, if_false, ht0', ht1', Option.bind_some, e0, e1, e2]
      generalize Int.tmod (t0 * (1 + t1)) (((flat r).length + 1 : Nat) : Int) = c at q0 q1
      obtain ⟨c, rfl⟩ : ∃ n : Nat, c = n := ⟨c.toNat, by omega⟩
      simp only [if_neg (show ¬ (((flat r).length + 1 : Nat) : Int) = 0 by omega), if_pos q0, if_pos (show (c : Int) ≤ ((flat r).length : Int) by omega), Int.toNat_natCast]
      obtain ⟨l1, l2, p1, p2, p3, p4⟩ := part_take r c2 c1 c3 c (by omega)
      have hlen : r.length = l1.length + l2.length := by rw [p1]; simp
      refine bnd p2 ?_
      simp only [if_neg (show ¬ ((l1.length : Int) > (r.length : Int)) by omega), if_neg (show ¬ (((flat l1).length : Int) > (c : Int)) by omega), if_pos (show (0 : Int) ≤ (l1.length : Int) by omega), if_pos (show (l1.length : Int) ≤ (r.length : Int) by omega)]
      have hpre : r.take l1.length = l1 := by rw [p1]; simp
      rw [hpre]
      refine bnd (sameEvents_ev l1 (by omega)) ?_
      simp only [if_true]
      have hA1 : AllPut l1 := fun e he => c2 e (by rw [p1]; exact List.mem_append_left _ he)
      have h3 := impl_PutLog_ev l1 (by omega)
      rw [if_pos (by omega), putR, if_pos ⟨hA1, by rw [List.nil_append]; omega⟩, List.nil_append] at h3
      refine bnd h3 ?_
      simp only [if_true]
      refine ite (fun h => ev rfl) (fun h => ev ?_)
      have e9 : wrap64 ((c : Int) - ((flat l1).length : Int)) = (c : Int) - ((flat l1).length : Int) := wid (by omega) (by omega)
      rw [e9]
      rcases p4 with p4 | p4
      · exact absurd (by rw [hlen, p4]; simp) h
      · exact decide_eq_true (by omega)
  · have hv : (if r.length ≤ 2000 then putR [] r else ([], false)) = ([], false) := by
      split
      · rename_i h5
        rw [putR, if_neg]
        rintro ⟨h6, h7⟩
        exact hc ⟨h5, h6, by simpa using h7⟩
      · rfl
    rw [hv] at h1 h2
    refine head ([], false) (by simp) ?_ h1 h2
    refine sh 1 ?_
    simp only [laws_FnBytes.j0, Bool.false_eq_true, if_false]
    exact ev rfl

end Go.Proofs.Ytladnbmemohekaa.PFnBytes
