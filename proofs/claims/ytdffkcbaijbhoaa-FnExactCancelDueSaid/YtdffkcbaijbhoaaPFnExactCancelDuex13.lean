/- Contracts of functions of the given program: what each call answers. Written by a program of this session, out of the text of the functions. -/
import Derived.Test.YtdffkcbaijbhoaaPFnExactCancelDuex0
import Derived.Test.YtdffkcbaijbhoaaPFnExactCancelDuex12
import Derived.Test.YtdffkcbaijbhoaaPrs
namespace Go.Proofs.Ytdffkcbaijbhoaa.PFnExactCancelDue
open Go.RowKit Go.Proofs.YtdffkcbaijbhoaaW.PrintWords Go.Proofs.YtdffkcbaijbhoaaW.PrintLast Go.Proofs.YtdffkcbaijbhoaaW.PrintMore Go.Proofs.Ytdffkcbaijbhoaa.Giv Go.Proofs.Ytdffkcbaijbhoaa.Prs
attribute [local go_sem] max2_int min2_int max_two min_two max_three min_three max_four min_four   -- for this text's walks alone
set_option linter.unusedVariables false
set_option linter.unusedSimpArgs false

/-! ### laws_heldHeap: function 15 -/
def laws_heldHeap.f (k:Nat) (l0_0:List (S56)) (a0_1:Int) (a1:Int):Option (Int):=(laws_heldDueS.f k l0_0 a1).bind fun t266=>(if t266 < 0 then (none) else (some t266))
theorem laws_heldHeap.mono:∀ a0 a1 a2 k,LeO (laws_heldHeap.f k a0 a1 a2) (laws_heldHeap.f (k + 1) a0 a1 a2):=by
 intro a0 a1 a2 k
 unfold laws_heldHeap.f
 repeat' first
   | (with_reducible exact laws_heldDueS.mono _ _ _)
   | (with_reducible exact LeO.refl _)
   | (with_reducible exact LeO.none _)
   | (with_reducible refine LeO.ite ?_ ?_)
   | (with_reducible refine LeO.bind ?_ (fun _=>?_))
   | exact laws_heldDueS.mono _ _ _
   | exact LeO.none _
   | refine LeO.ite ?_ ?_
   | refine LeO.bind ?_ (fun _=>?_)
set_option maxHeartbeats 8000000 in
set_option maxRecDepth 100000 in
theorem laws_heldHeap.calls (k:Nat) (A0_0:Option Addr) (c0_0:Nat) (l0_0:List (S56)) (a0_1:Int) (a1:Int) (r:Int) (w:World) (hr0_0:Kd.C k56 w A0_0 l0_0.length l0_0) (hc0_0:l0_0.length≤c0_0) (h:laws_heldHeap.f k l0_0 a0_1 a1=some r) :
  Calls Try.prog 15 #[.agg #[.slice A0_0 l0_0.length c0_0,.int .i64 a0_1],.int .i64 a1] w fun e w'=>e = .returned (.int .i64 r)∧Below w.heap.size w w':=by
 have hu28:=Try.underlying28
 have HR0_0:=Aside0.mk hr0_0
 have HC0_0:=Aside0.mk hc0_0
 clear hr0_0 hc0_0
 have HB:=Aside0.mk (Below.refl w.heap.size w)
 have H:((laws_heldDueS.f k l0_0 a1).bind fun t266=>(if t266 < 0 then (none) else (some t266)))=some r:=h
 clear h
 replace H:=Option.bind_eq_some_iff.mp H
 obtain ⟨t266,A30,H⟩:=H
 have A3:=Aside0.mk A30
 clear A30
 by_cases c4:t266 < 0
 ·rw [if_pos c4] at H
  exact absurd H (by simp)
 ·rw [if_neg c4] at H
  have c4b0:decide (t266 < 0)=false:=decide_eq_false c4
  clear c4
  obtain rfl:=Option.some.inj H
  go_enter Try.func15,Try.ntmps15
  go_wp2_with (first|((with_reducible refine gate_dst (N:=2) rfl ?_);refine bx 2 #[.slice A0_0 l0_0.length c0_0,.int .i64 a0_1] 28 ?_;intro gb265 hg w5 hbox hb;have BK265:=Aside0.mk (hbox);have GW265:=Aside0.mk (bz hg:w.heap.size≤gb265);have GE265:=GW265;replace HB:=Aside0.mk (below_step bl hb);clear hb hbox hg;obtain ⟨hcz6_0,hcz6_1,hfz6_0,hfz6_1⟩:=ck2 BK265.out)|((with_reducible refine gate_callee (f:=50) rfl ?_);refine gl (some 8) Try.func50 #[.slice A0_0 l0_0.length c0_0,.int .i64 a1] ?_;(with_reducible refine (laws_heldDueS.calls k _ _ l0_0 a1 t266 _ ?side1 ?side2 A3.out).mono ?_);(case side1=>exact kc HR0_0);(case side2=>exact HC0_0.out);rintro e w' ⟨rfl,⟨nd,rfl⟩⟩;refine ⟨_,rfl,?_⟩))
  go_ret
  exact ⟨er,bl⟩

end Go.Proofs.Ytdffkcbaijbhoaa.PFnExactCancelDue
