/- Words for the contracts that are given by hand: the first place in a list that a test takes; a function's entry; a table of whole numbers. No condition beyond what each theorem states. -/
import Derived.Test.YtfnphdikfialnaaWWords
import Derived.Lib.SliceRun
import Derived.WalkSpells
import Derived.Maps.OwnOps
import Derived.Maps.Views
import Derived.WalkKit
namespace Go.Proofs.Ytfnphdikfialnaa.Giv
open Go Go.Maps
variable {P : Program}
theorem enters_of' {f : FuncId} {fn : Func} {c : Code} (hf : P.funcs[f]? = some fn) (hname : (fn.name == "runtime.NumGoroutine") = false) (hb : fn.body = some c) (args : Array Value) (w : World) : (callFunc f args).run P w = .ok (.enter f args) w := by
  have h1 : fn.name ≠ "runtime.NumGoroutine" := by simpa using hname
  simp [callFunc, hf, h1, hb, mark]
/-- The first place, counted from n on, of an element that p takes; -1 if there is none. -/
def findI {α : Type} (p : α → Bool) : List α → Int → Int
  | [], _ => -1
  | x :: l, n => if p x = true then n else findI p l (n + 1)
/-- A table: what was put last comes first. -/
def lookT : List (Int × Int) → Int → Int
  | [], _ => 0
  | (k, v) :: r, x => if k = x then v else lookT r x
def Dm {H : Type} : List (Int × Int) → DataW H
  | [] => .map []
  | (k, v) :: r => (Dm r).put (.int .i64 k) (.lit (.int .i64 v))
theorem Dm_is {H : Type} : ∀ m : List (Int × Int), Maps.IsMap (Dm (H := H) m)
  | [] => ⟨[], rfl⟩
  | (_, _) :: r => (Dm_is r).put _ _
theorem Dm_at {H : Type} : ∀ (m : List (Int × Int)) (x : Int), (Dm (H := H) m).atKey (.int .i64 x) (.lit (.int .i64 0)) = .lit (.int .i64 (lookT m x))
  | [], x => by simp [Dm, lookT, DataW.atKey]
  | (k, v) :: r, x => by
    simp only [Dm, lookT]
    by_cases h : k = x
    · subst h
      rw [if_pos rfl, Maps.atKey_put_same (Dm_is r) (by simp [WideAt.IsKeyLit])]
    · rw [if_neg h, Maps.atKey_put_other (by intro e; injection e with _ e; exact h e.symm), Dm_at r x]
theorem Dm_c {H : Type} {m : List (Int × Int)} {x c : Int} (h : (Dm (H := H) m).atKey (.int .i64 x) (.lit (.int .i64 0)) = .lit (.int .i64 c)) : c = lookT m x := by
  rw [Dm_at] at h
  injection h with h; injection h with _ h; exact h.symm
/-- A set of whole numbers: what was put is there. -/
def lookB : List Int → Int → Bool
  | [], _ => false
  | k :: r, x => if k = x then true else lookB r x
def Db {H : Type} : List Int → DataW H
  | [] => .map []
  | k :: r => (Db r).put (.int .i64 k) (.lit (.bool true))
theorem Db_is {H : Type} : ∀ m : List Int, Maps.IsMap (Db (H := H) m)
  | [] => ⟨[], rfl⟩
  | _ :: r => (Db_is r).put _ _
theorem Db_at {H : Type} : ∀ (m : List Int) (x : Int), (Db (H := H) m).atKey (.int .i64 x) (.lit (.bool false)) = .lit (.bool (lookB m x))
  | [], x => by simp [Db, lookB, DataW.atKey]
  | k :: r, x => by
    simp only [Db, lookB]
    by_cases h : k = x
    · subst h
      rw [if_pos rfl, Maps.atKey_put_same (Db_is r) (by simp [WideAt.IsKeyLit])]
    · rw [if_neg h, Maps.atKey_put_other (by intro e; injection e with _ e; exact h e.symm), Db_at r x]
theorem Db_c {H : Type} {m : List Int} {x : Int} {c : Bool} (h : (Db (H := H) m).atKey (.int .i64 x) (.lit (.bool false)) = .lit (.bool c)) : c = lookB m x := by
  rw [Db_at] at h
  injection h with h; injection h with h; exact h.symm
theorem plainElem_bool_inv {H : Type} {e : TypeId} (he : P.underlying e = some .bool) {v : Value} {z : DataW H × List MemPlace} (h : plainElem P e v = some z) : ∃ c, v = .bool c ∧ z = (.lit (.bool c), []) := by
  unfold plainElem at h
  rw [he] at h
  cases v <;> simp at h
  exact ⟨_, rfl, h.symm⟩
theorem wpList_lookup_own_bool {H : Type} (w : World) {ops : Array Oper} {rest : List Oper} {o : Oper} {a : Act} {Q : Exit → Act → World → Prop}
    (hg : o.guard = none) (m x : Operand) (t : TypeId) (hop : o.op = Op.lookup t m x false) (k e : TypeId) (K : Keyed P k) (ht : P.underlying t = some (.map k e)) (he : P.underlying e = some .bool) (hz : (zeroValue e).run P w = .ok (.bool false) w)
    (b n : Nat) (D : DataW H) (hm : a.eval m = .map (some b)) (hown : w.ownsMap P k (plainElem P e) b n D) (key : Value) (kl : Lit) (hx : a.eval x = key) (hkey : keyOf P k key = some kl)
    (hK : ∀ c : Bool, D.atKey kl (.lit (.bool false)) = .lit (.bool c) → wpList P ops Q rest (a.put o.dst (.bool c)) w) : wpList P ops Q (o :: rest) a w := by
  refine wpList_plain hg fun K' hK' => ?_
  obtain ⟨v, ps, hrun, hv⟩ := hown.lookup K ht hz (plainElem_bool he false) hkey
  obtain ⟨c, rfl, hc⟩ := plainElem_bool_inv he hv
  have hat : D.atKey kl (.lit (.bool false)) = .lit (.bool c) := (Prod.mk.inj hc).1
  unfold Oper.wp
  simp [execOp, hop, hm, hx, hrun, Result.andThen]
  exact hK' _ _ (hK c hat)
theorem own_below {H : Type} {k : TypeId} {R : Value → Option (DataW H × List MemPlace)} {w w' : World} {b n : Nat} {D : DataW H} (h : w.ownsMap P k R b n D) (hb : RowKit.Below w.heap.size w w') : w'.ownsMap P k R b n D := by
  have hlt := h.lt
  obtain ⟨es, clock, he, r⟩ := h
  exact ⟨es, clock, (hb.block b hlt).trans he, r⟩
theorem own_drew {H : Type} {k : TypeId} {R : Value → Option (DataW H × List MemPlace)} {w : World} {b n : Nat} {D : DataW H} (h : w.ownsMap P k R b n D) (m : Nat) : (w.drewN m).ownsMap P k R b n D := h
end Go.Proofs.Ytfnphdikfialnaa.Giv
