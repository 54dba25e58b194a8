/- Contracts of functions of the given program: what each call answers. Written by a program of this session, out of the text of the functions. -/
import Derived.Test.YtdffkcbaijbhoaaPFnExactSchedulex0
import Derived.Test.YtdffkcbaijbhoaaPFnExactSchedulex1
import Derived.Test.YtdffkcbaijbhoaaPrs
namespace Go.Proofs.Ytdffkcbaijbhoaa.PFnExactSchedule
open Go.RowKit Go.Proofs.YtdffkcbaijbhoaaW.PrintWords Go.Proofs.YtdffkcbaijbhoaaW.PrintLast Go.Proofs.YtdffkcbaijbhoaaW.PrintMore Go.Proofs.Ytdffkcbaijbhoaa.Giv Go.Proofs.Ytdffkcbaijbhoaa.Prs
attribute [local go_sem] max2_int min2_int max_two min_two max_three min_three max_four min_four   -- for this text's walks alone
set_option linter.unusedVariables false
set_option linter.unusedSimpArgs false

/-! ### laws_heldHeap: function 15 -/
def laws_heldHeap.f (k:Nat) (l0_0:List (S56)) (a0_1:Int) (a1:Int):Option (Int):=(laws_heldDueS.f k l0_0 a1).bind fun t138=>(if t138 < 0 then (none) else (some t138))
theorem laws_heldHeap.mono:∀ a0 a1 a2 k,LeO (laws_heldHeap.f k a0 a1 a2) (laws_heldHeap.f (k + 1) a0 a1 a2):=by
 intro a0 a1 a2 k
 unfold laws_heldHeap.f
 repeat' first
   | (with_reducible exact laws_heldDueS.mono _ _ _)
   | (with_reducible exact LeO.refl _)
   | (with_reducible exact LeO.none _)
   | (with_reducible refine LeO.ite ?_ ?_)
   | (with_reducible refine LeO.bind ?_ (fun _=>?_))
   | exact laws_heldDueS.mono _ _ _
   | exact LeO.none _
   | refine LeO.ite ?_ ?_
   | refine LeO.bind ?_ (fun _=>?_)
set_option maxHeartbeats 8000000 in
set_option maxRecDepth 100000 in
theorem laws_heldHeap.calls (k:Nat) (A0_0:Option Addr) (c0_0:Nat) (l0_0:List (S56)) (a0_1:Int) (a1:Int) (r:Int) (w:World) (hr0_0:Kd.C k56 w A0_0 l0_0.length l0_0) (hc0_0:l0_0.length≤c0_0) (h:laws_heldHeap.f k l0_0 a0_1 a1=some r) :
  Calls Try.prog 15 #[.agg #[.slice A0_0 l0_0.length c0_0,.int .i64 a0_1],.int .i64 a1] w fun e w'=>e = .returned (.int .i64 r)∧Below w.heap.size w w':=by
 have hu28:=Try.underlying28
 have HR0_0:=Aside0.mk hr0_0
 have HC0_0:=Aside0.mk hc0_0
 clear hr0_0 hc0_0
 have HB:=Aside0.mk (Below.refl w.heap.size w)
 have H:((laws_heldDueS.f k l0_0 a1).bind fun t138=>(if t138 < 0 then (none) else (some t138)))=some r:=h
 clear h
 replace H:=Option.bind_eq_some_iff.mp H
 obtain ⟨t138,A30,H⟩:=H
 have A3:=Aside0.mk A30
 clear A30
 by_cases c4:t138 < 0
 ·rw [if_pos c4] at H
  exact absurd H (by simp)
 ·rw [if_neg c4] at H
  have c4b0:decide (t138 < 0)=false:=decide_eq_false c4
  clear c4
  obtain rfl:=Option.some.inj H
  go_enter Try.func15,Try.ntmps15
  go_wp2_with (first|((with_reducible refine gate_dst (N:=2) rfl ?_);refine bx 2 #[.slice A0_0 l0_0.length c0_0,.int .i64 a0_1] 28 ?_;intro gb137 hg w5 hbox hb;have BK137:=Aside0.mk (hbox);have GW137:=Aside0.mk (bz hg:w.heap.size≤gb137);have GE137:=GW137;replace HB:=Aside0.mk (below_step bl hb);clear hb hbox hg;obtain ⟨hcz6_0,hcz6_1,hfz6_0,hfz6_1⟩:=ck2 BK137.out)|((with_reducible refine gate_callee (f:=50) rfl ?_);refine gl (some 8) Try.func50 #[.slice A0_0 l0_0.length c0_0,.int .i64 a1] ?_;(with_reducible refine (laws_heldDueS.calls k _ _ l0_0 a1 t138 _ ?side1 ?side2 A3.out).mono ?_);(case side1=>exact kc HR0_0);(case side2=>exact HC0_0.out);rintro e w' ⟨rfl,⟨nd,rfl⟩⟩;refine ⟨_,rfl,?_⟩))
  go_ret
  exact ⟨er,bl⟩

/-! ### spec_l01In: function 52 -/
def spec_l01In.f (a0:Int) (a1:Int) (a2:Int):Option (Bool):=if a1≤a0 then (some (decide (a0≤a2))) else (some false)
set_option maxHeartbeats 8000000 in
set_option maxRecDepth 100000 in
theorem spec_l01In.calls (a0:Int) (a1:Int) (a2:Int) (r:Bool) (w:World) (h:spec_l01In.f a0 a1 a2=some r) :
  Calls Try.prog 52 #[.int .i64 a0,.int .i64 a1,.int .i64 a2] w fun e w'=>e = .returned (.bool r)∧Drawn0 w w':=by
 have H:(if a1≤a0 then (some (decide (a0≤a2))) else (some false))=some r:=h
 clear h
 by_cases c4:a1≤a0
 ·rw [if_pos c4] at H
  have c4b0:decide (a1≤a0)=true:=decide_eq_true c4
  clear c4
  obtain rfl:=Option.some.inj H
  go_enter Try.func52,Try.ntmps52
  go_wp2
  go_ret
  exact ⟨by first|rfl|(simp;done)|(simp [*];done),by repeat (first|exact Drawn0.refl _|apply Drawn0.step)⟩
 ·rw [if_neg c4] at H
  have c4b0:decide (a1≤a0)=false:=decide_eq_false c4
  clear c4
  obtain rfl:=Option.some.inj H
  go_enter Try.func52,Try.ntmps52
  go_wp2
  go_ret
  exact ⟨by first|rfl|(simp;done)|(simp [*];done),by repeat (first|exact Drawn0.refl _|apply Drawn0.step)⟩

/-! ### spec_TickOk: function 51 -/
def spec_TickOk.f (a0:Int):Option (Bool):=(spec_l01In.f a0 0 1000000000).bind fun t139=>(some t139)
set_option maxHeartbeats 8000000 in
set_option maxRecDepth 100000 in
theorem spec_TickOk.calls (a0:Int) (r:Bool) (w:World) (h:spec_TickOk.f a0=some r) :
  Calls Try.prog 51 #[.int .i64 a0] w fun e w'=>e = .returned (.bool r)∧Drawn0 w w':=by
 have H:((spec_l01In.f a0 0 1000000000).bind fun t139=>(some t139))=some r:=h
 clear h
 replace H:=Option.bind_eq_some_iff.mp H
 obtain ⟨t139,A20,H⟩:=H
 have A2:=Aside0.mk A20
 clear A20
 obtain rfl:=Option.some.inj H
 go_enter Try.func51,Try.ntmps51
 go_wp2_with (first|((with_reducible refine gate_callee (f:=52) rfl ?_);refine gl (some 4) Try.func52 #[.int .i64 a0,.int .i64 0,.int .i64 1000000000] ?_;(with_reducible refine (spec_l01In.calls a0 0 1000000000 t139 _ A2.out).mono ?_);rintro e w' ⟨rfl,⟨nd,rfl⟩⟩;refine ⟨_,rfl,?_⟩))
 go_ret
 exact ⟨by first|rfl|(simp;done)|(simp [*];done),by repeat (first|exact Drawn0.refl _|apply Drawn0.step)⟩

/-! ### spec_l03Before: function 68 -/
def spec_l03Before.f (a0_0:Int) (a0_1:Int) (a0_2:Int) (a1_0:Int) (a1_1:Int) (a1_2:Int):Option (Bool):=if a0_0 < a1_0 then (some true) else (if a0_0=a1_0 then (some (decide (a0_1 < a1_1))) else (some false))
set_option maxHeartbeats 8000000 in
set_option maxRecDepth 100000 in
theorem spec_l03Before.calls (a0_0:Int) (a0_1:Int) (a0_2:Int) (a1_0:Int) (a1_1:Int) (a1_2:Int) (r:Bool) (w:World) (h:spec_l03Before.f a0_0 a0_1 a0_2 a1_0 a1_1 a1_2=some r) :
  Calls Try.prog 68 #[.agg #[.int .i64 a0_0,.int .i64 a0_1,.int .i64 a0_2],.agg #[.int .i64 a1_0,.int .i64 a1_1,.int .i64 a1_2]] w fun e w'=>e = .returned (.bool r)∧Below w.heap.size w w':=by
 have hu56:=Try.underlying56
 have HB:=Aside0.mk (Below.refl w.heap.size w)
 have H:(if a0_0 < a1_0 then (some true) else (if a0_0=a1_0 then (some (decide (a0_1 < a1_1))) else (some false)))=some r:=h
 clear h
 by_cases c3:a0_0 < a1_0
 ·rw [if_pos c3] at H
  have c3b0:decide (a0_0 < a1_0)=true:=decide_eq_true c3
  clear c3
  obtain rfl:=Option.some.inj H
  go_enter Try.func68,Try.ntmps68
  go_wp2_with (first|((with_reducible refine gate_dst (N:=2) rfl ?_);refine bx 2 #[.int .i64 a0_0,.int .i64 a0_1,.int .i64 a0_2] 56 ?_;intro gb140 hg w4 hbox hb;have BK140:=Aside0.mk (hbox);have GW140:=Aside0.mk (bz hg:w.heap.size≤gb140);have GE140:=GW140;replace HB:=Aside0.mk (below_step bl hb);clear hb hbox hg)|((with_reducible refine gate_dst (N:=3) rfl ?_);refine bx 3 #[.int .i64 a1_0,.int .i64 a1_1,.int .i64 a1_2] 56 ?_;intro gb141 hg w5 hbox hb;have BK141:=Aside0.mk (hbox);have GW141:=Aside0.mk (bz hg:w.heap.size≤gb141);have GE141:=GW141;replace HB:=Aside0.mk (below_step bl hb);have NB140_141:=Aside0.mk (nl hg BK140:gb140≠gb141);have NB141_140:=Aside0.mk (nr hg BK140:gb141≠gb140);replace BK140:=Aside0.mk (blk_below (bk BK140) hb);clear hb hbox hg;have hnb6:=NB140_141.out;have hnc6:=NB141_140.out;obtain ⟨hcz7_0,hcz7_1,hcz7_2,hfz7_0,hfz7_1,hfz7_2⟩:=ck3 BK140.out;obtain ⟨hcz8_0,hcz8_1,hcz8_2,hfz8_0,hfz8_1,hfz8_2⟩:=ck3 BK141.out))
  go_ret
  exact ⟨er,bl⟩
 ·rw [if_neg c3] at H
  have c3b0:decide (a0_0 < a1_0)=false:=decide_eq_false c3
  clear c3
  by_cases c9:a0_0=a1_0
  ·rw [if_pos c9] at H
   have c9b0:(a0_0 == a1_0)=true:=beq_iff_eq.mpr c9
   have c9b1:(a0_0 != a1_0)=false:=bne_eq_false_iff_eq.mpr c9
   clear c9
   obtain rfl:=Option.some.inj H
   go_enter Try.func68,Try.ntmps68
   go_wp2_with (first|((with_reducible refine gate_dst (N:=2) rfl ?_);refine bx 2 #[.int .i64 a0_0,.int .i64 a0_1,.int .i64 a0_2] 56 ?_;intro gb140 hg w10 hbox hb;have BK140:=Aside0.mk (hbox);have GW140:=Aside0.mk (bz hg:w.heap.size≤gb140);have GE140:=GW140;replace HB:=Aside0.mk (below_step bl hb);clear hb hbox hg)|((with_reducible refine gate_dst (N:=3) rfl ?_);refine bx 3 #[.int .i64 a1_0,.int .i64 a1_1,.int .i64 a1_2] 56 ?_;intro gb141 hg w11 hbox hb;have BK141:=Aside0.mk (hbox);have GW141:=Aside0.mk (bz hg:w.heap.size≤gb141);have GE141:=GW141;replace HB:=Aside0.mk (below_step bl hb);have NB140_141:=Aside0.mk (nl hg BK140:gb140≠gb141);have NB141_140:=Aside0.mk (nr hg BK140:gb141≠gb140);replace BK140:=Aside0.mk (blk_below (bk BK140) hb);clear hb hbox hg;have hnb12:=NB140_141.out;have hnc12:=NB141_140.out;obtain ⟨hcz13_0,hcz13_1,hcz13_2,hfz13_0,hfz13_1,hfz13_2⟩:=ck3 BK140.out;obtain ⟨hcz14_0,hcz14_1,hcz14_2,hfz14_0,hfz14_1,hfz14_2⟩:=ck3 BK141.out))
   go_ret
   exact ⟨er,bl⟩
  ·rw [if_neg c9] at H
   have c9b0:(a0_0 == a1_0)=false:=beq_eq_false_iff_ne.mpr c9
   have c9b1:(a0_0 != a1_0)=true:=bne_iff_ne.mpr c9
   obtain rfl:=Option.some.inj H
   go_enter Try.func68,Try.ntmps68
   go_wp2_with (first|((with_reducible refine gate_dst (N:=2) rfl ?_);refine bx 2 #[.int .i64 a0_0,.int .i64 a0_1,.int .i64 a0_2] 56 ?_;intro gb140 hg w15 hbox hb;have BK140:=Aside0.mk (hbox);have GW140:=Aside0.mk (bz hg:w.heap.size≤gb140);have GE140:=GW140;replace HB:=Aside0.mk (below_step bl hb);clear hb hbox hg)|((with_reducible refine gate_dst (N:=3) rfl ?_);refine bx 3 #[.int .i64 a1_0,.int .i64 a1_1,.int .i64 a1_2] 56 ?_;intro gb141 hg w16 hbox hb;have BK141:=Aside0.mk (hbox);have GW141:=Aside0.mk (bz hg:w.heap.size≤gb141);have GE141:=GW141;replace HB:=Aside0.mk (below_step bl hb);have NB140_141:=Aside0.mk (nl hg BK140:gb140≠gb141);have NB141_140:=Aside0.mk (nr hg BK140:gb141≠gb140);replace BK140:=Aside0.mk (blk_below (bk BK140) hb);clear hb hbox hg;have hnb17:=NB140_141.out;have hnc17:=NB141_140.out;obtain ⟨hcz18_0,hcz18_1,hcz18_2,hfz18_0,hfz18_1,hfz18_2⟩:=ck3 BK140.out;obtain ⟨hcz19_0,hcz19_1,hcz19_2,hfz19_0,hfz19_1,hfz19_2⟩:=ck3 BK141.out))
   go_ret
   exact ⟨er,bl⟩

end Go.Proofs.Ytdffkcbaijbhoaa.PFnExactSchedule
