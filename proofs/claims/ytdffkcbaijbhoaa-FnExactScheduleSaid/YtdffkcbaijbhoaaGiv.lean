/- Words for the contracts that are given by hand: the first place in a list that a test takes; a function's entry. No condition beyond what each theorem states. -/
import Derived.Test.YtdffkcbaijbhoaaWWords
import Derived.Lib.SliceRun
import Derived.WalkSpells
namespace Go.Proofs.Ytdffkcbaijbhoaa.Giv
open Go
variable {P : Program}
theorem enters_of' {f : FuncId} {fn : Func} {c : Code} (hf : P.funcs[f]? = some fn) (hname : (fn.name == "runtime.NumGoroutine") = false) (hb : fn.body = some c) (args : Array Value) (w : World) : (callFunc f args).run P w = .ok (.enter f args) w := by
  have h1 : fn.name ≠ "runtime.NumGoroutine" := by simpa using hname
  simp [callFunc, hf, h1, hb, mark]
/-- The first place, counted from n on, of an element that p takes; -1 if there is none. -/
def findI {α : Type} (p : α → Bool) : List α → Int → Int
  | [], _ => -1
  | x :: l, n => if p x = true then n else findI p l (n + 1)
end Go.Proofs.Ytdffkcbaijbhoaa.Giv
