/- Contracts of functions of the given program: what each call answers. Written by a program of this session, out of the text of the functions. -/
import Derived.Test.YtnkpjpfmjkiidaaPFnExactNextExpiryx0
import Derived.Test.YtnkpjpfmjkiidaaZFnExactNextExpiry
namespace Go.Proofs.Ytnkpjpfmjkiidaa.PFnExactNextExpiry
open Go.RowKit Go.Proofs.YtnkpjpfmjkiidaaW.PrintWords Go.Proofs.YtnkpjpfmjkiidaaW.PrintLast Go.Proofs.YtnkpjpfmjkiidaaW.PrintMore Go.Proofs.Ytnkpjpfmjkiidaa.Giv Go.Proofs.Ytnkpjpfmjkiidaa.Prs
attribute [local go_sem] max2_int min2_int max_two min_two max_three min_three max_four min_four   -- for this text's walks alone
set_option linter.unusedVariables false
set_option linter.unusedSimpArgs false

/-! ### laws_szSlotS: function 46 -/
def laws_szSlotS.f (l0:List (S100)) (a1:Int):Option (Int):=if (wrap64 (a1 - (l0.length:Int))) < 0 then (some (-1)) else (some (wrap64 (a1 - (l0.length:Int))))
set_option maxHeartbeats 8000000 in
set_option maxRecDepth 100000 in
theorem laws_szSlotS.calls (A0:Option Addr) (c0:Nat) (l0:List (S100)) (a1:Int) (r:Int) (w:World) (hr0:Kd.C k100 w A0 l0.length l0) (hc0:l0.length≤c0) (h:laws_szSlotS.f l0 a1=some r) :
  Calls Try.prog 46 #[.slice A0 l0.length c0,.int .i64 a1] w fun e w'=>e = .returned (.int .i64 r)∧Drawn0 w w':=by
 have HR0:=Aside0.mk hr0
 have HC0:=Aside0.mk hc0
 clear hr0 hc0
 have H:(if (wrap64 (a1 - (l0.length:Int))) < 0 then (some (-1)) else (some (wrap64 (a1 - (l0.length:Int)))))=some r:=h
 clear h
 by_cases c3:(wrap64 (a1 - (l0.length:Int))) < 0
 ·rw [if_pos c3] at H
  have c3b0:decide ((wrap64 (a1 - (l0.length:Int))) < 0)=true:=decide_eq_true c3
  clear c3
  obtain rfl:=Option.some.inj H
  go_enter Try.func46,Try.ntmps46
  go_wp2
  go_ret
  exact ⟨by first|rfl|(simp;done)|(simp [*];done),by repeat (first|exact Drawn0.refl _|apply Drawn0.step)⟩
 ·rw [if_neg c3] at H
  have c3b0:decide ((wrap64 (a1 - (l0.length:Int))) < 0)=false:=decide_eq_false c3
  clear c3
  obtain rfl:=Option.some.inj H
  go_enter Try.func46,Try.ntmps46
  go_wp2
  go_ret
  exact ⟨by first|rfl|(simp;done)|(simp [*];done),by repeat (first|exact Drawn0.refl _|apply Drawn0.step)⟩

/-! ### laws_szQueue: function 12 -/
def laws_szQueue.f (l0_0:List (S100)) (a0_1:Int) (a0_2:Int) (a0_3:Int) (a0_4:Int) (a1:Int):Option (Int):=(laws_szSlotS.f l0_0 a1).bind fun t102=>(if t102 < 0 then (some (-1)) else (some t102))
set_option maxHeartbeats 8000000 in
set_option maxRecDepth 100000 in
theorem laws_szQueue.calls (A0_0:Option Addr) (c0_0:Nat) (l0_0:List (S100)) (a0_1:Int) (a0_2:Int) (a0_3:Int) (a0_4:Int) (a1:Int) (r:Int) (w:World) (hr0_0:Kd.C k100 w A0_0 l0_0.length l0_0) (hc0_0:l0_0.length≤c0_0) (h:laws_szQueue.f l0_0 a0_1 a0_2 a0_3 a0_4 a1=some r) :
  Calls Try.prog 12 #[.agg #[.slice A0_0 l0_0.length c0_0,.int .i64 a0_1,.int .i64 a0_2,.int .i64 a0_3,.int .i64 a0_4],.int .i64 a1] w fun e w'=>e = .returned (.int .i64 r)∧Below w.heap.size w w':=by
 have hu24:=Try.underlying24
 have HR0_0:=Aside0.mk hr0_0
 have HC0_0:=Aside0.mk hc0_0
 clear hr0_0 hc0_0
 have HB:=Aside0.mk (Below.refl w.heap.size w)
 have H:((laws_szSlotS.f l0_0 a1).bind fun t102=>(if t102 < 0 then (some (-1)) else (some t102)))=some r:=h
 clear h
 replace H:=Option.bind_eq_some_iff.mp H
 obtain ⟨t102,A30,H⟩:=H
 have A3:=Aside0.mk A30
 clear A30
 by_cases c4:t102 < 0
 ·rw [if_pos c4] at H
  have c4b0:decide (t102 < 0)=true:=decide_eq_true c4
  clear c4
  obtain rfl:=Option.some.inj H
  go_enter Try.func12,Try.ntmps12
  go_wp2_with (first|((with_reducible refine gate_dst (N:=2) rfl ?_);refine bx 2 #[.slice A0_0 l0_0.length c0_0,.int .i64 a0_1,.int .i64 a0_2,.int .i64 a0_3,.int .i64 a0_4] 24 ?_;intro gb101 hg w5 hbox hb;have BK101:=Aside0.mk (hbox);have GW101:=Aside0.mk (bz hg:w.heap.size≤gb101);have GE101:=GW101;replace HB:=Aside0.mk (below_step bl hb);clear hb hbox hg;obtain ⟨hcz6_0,hcz6_1,hcz6_2,hcz6_3,hcz6_4,hfz6_0,hfz6_1,hfz6_2,hfz6_3,hfz6_4⟩:=ck5 BK101.out)|((with_reducible refine gate_callee (f:=46) rfl ?_);refine gl (some 8) Try.func46 #[.slice A0_0 l0_0.length c0_0,.int .i64 a1] ?_;(with_reducible refine (laws_szSlotS.calls _ _ l0_0 a1 t102 _ ?side1 ?side2 A3.out).mono ?_);(case side1=>exact kc HR0_0);(case side2=>exact HC0_0.out);rintro e w' ⟨rfl,⟨nd,rfl⟩⟩;refine ⟨_,rfl,?_⟩))
  go_ret
  exact ⟨er,bl⟩
 ·rw [if_neg c4] at H
  have c4b0:decide (t102 < 0)=false:=decide_eq_false c4
  clear c4
  obtain rfl:=Option.some.inj H
  go_enter Try.func12,Try.ntmps12
  go_wp2_with (first|((with_reducible refine gate_dst (N:=2) rfl ?_);refine bx 2 #[.slice A0_0 l0_0.length c0_0,.int .i64 a0_1,.int .i64 a0_2,.int .i64 a0_3,.int .i64 a0_4] 24 ?_;intro gb101 hg w7 hbox hb;have BK101:=Aside0.mk (hbox);have GW101:=Aside0.mk (bz hg:w.heap.size≤gb101);have GE101:=GW101;replace HB:=Aside0.mk (below_step bl hb);clear hb hbox hg;obtain ⟨hcz8_0,hcz8_1,hcz8_2,hcz8_3,hcz8_4,hfz8_0,hfz8_1,hfz8_2,hfz8_3,hfz8_4⟩:=ck5 BK101.out)|((with_reducible refine gate_callee (f:=46) rfl ?_);refine gl (some 8) Try.func46 #[.slice A0_0 l0_0.length c0_0,.int .i64 a1] ?_;(with_reducible refine (laws_szSlotS.calls _ _ l0_0 a1 t102 _ ?side1 ?side2 A3.out).mono ?_);(case side1=>exact kc HR0_0);(case side2=>exact HC0_0.out);rintro e w' ⟨rfl,⟨nd,rfl⟩⟩;refine ⟨_,rfl,?_⟩))
  go_ret
  exact ⟨er,bl⟩

/-! ### laws_szDueS: function 91 -/
def laws_szDueS.f (l0:List (S120)) (a1:Int):Option (Int):=if (wrap64 (a1 - (l0.length:Int))) < 0 then (some (-1)) else (some (wrap64 (a1 - (l0.length:Int))))
set_option maxHeartbeats 8000000 in
set_option maxRecDepth 100000 in
theorem laws_szDueS.calls (A0:Option Addr) (c0:Nat) (l0:List (S120)) (a1:Int) (r:Int) (w:World) (hr0:Kd.C k120 w A0 l0.length l0) (hc0:l0.length≤c0) (h:laws_szDueS.f l0 a1=some r) :
  Calls Try.prog 91 #[.slice A0 l0.length c0,.int .i64 a1] w fun e w'=>e = .returned (.int .i64 r)∧Drawn0 w w':=by
 have HR0:=Aside0.mk hr0
 have HC0:=Aside0.mk hc0
 clear hr0 hc0
 have H:(if (wrap64 (a1 - (l0.length:Int))) < 0 then (some (-1)) else (some (wrap64 (a1 - (l0.length:Int)))))=some r:=h
 clear h
 by_cases c3:(wrap64 (a1 - (l0.length:Int))) < 0
 ·rw [if_pos c3] at H
  have c3b0:decide ((wrap64 (a1 - (l0.length:Int))) < 0)=true:=decide_eq_true c3
  clear c3
  obtain rfl:=Option.some.inj H
  go_enter Try.func91,Try.ntmps91
  go_wp2
  go_ret
  exact ⟨by first|rfl|(simp;done)|(simp [*];done),by repeat (first|exact Drawn0.refl _|apply Drawn0.step)⟩
 ·rw [if_neg c3] at H
  have c3b0:decide ((wrap64 (a1 - (l0.length:Int))) < 0)=false:=decide_eq_false c3
  clear c3
  obtain rfl:=Option.some.inj H
  go_enter Try.func91,Try.ntmps91
  go_wp2
  go_ret
  exact ⟨by first|rfl|(simp;done)|(simp [*];done),by repeat (first|exact Drawn0.refl _|apply Drawn0.step)⟩

/-! ### laws_szHeap: function 59 -/
def laws_szHeap.f (l0_0:List (S120)) (a0_1:Int) (a1:Int):Option (Int):=(laws_szDueS.f l0_0 a1).bind fun t104=>(if t104 < 0 then (some (-1)) else (some t104))
set_option maxHeartbeats 8000000 in
set_option maxRecDepth 100000 in
theorem laws_szHeap.calls (A0_0:Option Addr) (c0_0:Nat) (l0_0:List (S120)) (a0_1:Int) (a1:Int) (r:Int) (w:World) (hr0_0:Kd.C k120 w A0_0 l0_0.length l0_0) (hc0_0:l0_0.length≤c0_0) (h:laws_szHeap.f l0_0 a0_1 a1=some r) :
  Calls Try.prog 59 #[.agg #[.slice A0_0 l0_0.length c0_0,.int .i64 a0_1],.int .i64 a1] w fun e w'=>e = .returned (.int .i64 r)∧Below w.heap.size w w':=by
 have hu37:=Try.underlying37
 have HR0_0:=Aside0.mk hr0_0
 have HC0_0:=Aside0.mk hc0_0
 clear hr0_0 hc0_0
 have HB:=Aside0.mk (Below.refl w.heap.size w)
 have H:((laws_szDueS.f l0_0 a1).bind fun t104=>(if t104 < 0 then (some (-1)) else (some t104)))=some r:=h
 clear h
 replace H:=Option.bind_eq_some_iff.mp H
 obtain ⟨t104,A30,H⟩:=H
 have A3:=Aside0.mk A30
 clear A30
 by_cases c4:t104 < 0
 ·rw [if_pos c4] at H
  have c4b0:decide (t104 < 0)=true:=decide_eq_true c4
  clear c4
  obtain rfl:=Option.some.inj H
  go_enter Try.func59,Try.ntmps59
  go_wp2_with (first|((with_reducible refine gate_dst (N:=2) rfl ?_);refine bx 2 #[.slice A0_0 l0_0.length c0_0,.int .i64 a0_1] 37 ?_;intro gb103 hg w5 hbox hb;have BK103:=Aside0.mk (hbox);have GW103:=Aside0.mk (bz hg:w.heap.size≤gb103);have GE103:=GW103;replace HB:=Aside0.mk (below_step bl hb);clear hb hbox hg;obtain ⟨hcz6_0,hcz6_1,hfz6_0,hfz6_1⟩:=ck2 BK103.out)|((with_reducible refine gate_callee (f:=91) rfl ?_);refine gl (some 8) Try.func91 #[.slice A0_0 l0_0.length c0_0,.int .i64 a1] ?_;(with_reducible refine (laws_szDueS.calls _ _ l0_0 a1 t104 _ ?side1 ?side2 A3.out).mono ?_);(case side1=>exact kc HR0_0);(case side2=>exact HC0_0.out);rintro e w' ⟨rfl,⟨nd,rfl⟩⟩;refine ⟨_,rfl,?_⟩))
  go_ret
  exact ⟨er,bl⟩
 ·rw [if_neg c4] at H
  have c4b0:decide (t104 < 0)=false:=decide_eq_false c4
  clear c4
  obtain rfl:=Option.some.inj H
  go_enter Try.func59,Try.ntmps59
  go_wp2_with (first|((with_reducible refine gate_dst (N:=2) rfl ?_);refine bx 2 #[.slice A0_0 l0_0.length c0_0,.int .i64 a0_1] 37 ?_;intro gb103 hg w7 hbox hb;have BK103:=Aside0.mk (hbox);have GW103:=Aside0.mk (bz hg:w.heap.size≤gb103);have GE103:=GW103;replace HB:=Aside0.mk (below_step bl hb);clear hb hbox hg;obtain ⟨hcz8_0,hcz8_1,hfz8_0,hfz8_1⟩:=ck2 BK103.out)|((with_reducible refine gate_callee (f:=91) rfl ?_);refine gl (some 8) Try.func91 #[.slice A0_0 l0_0.length c0_0,.int .i64 a1] ?_;(with_reducible refine (laws_szDueS.calls _ _ l0_0 a1 t104 _ ?side1 ?side2 A3.out).mono ?_);(case side1=>exact kc HR0_0);(case side2=>exact HC0_0.out);rintro e w' ⟨rfl,⟨nd,rfl⟩⟩;refine ⟨_,rfl,?_⟩))
  go_ret
  exact ⟨er,bl⟩

/-! ### laws_szLine: function 19 -/
def laws_szLine.f (l0_0:List (S100)) (a0_1:Int) (a0_2:Int) (a0_3:Int) (a0_4:Int) (l0_5:List (S120)) (a0_6:Int) (a1:Int):Option (Int):=(laws_szQueue.f l0_0 a0_1 a0_2 a0_3 a0_4 a1).bind fun t106=>(if t106 < 0 then (some (-1)) else ((laws_szHeap.f l0_5 a0_6 t106).bind fun t107=>(if t107 < 0 then (some (-1)) else (some t107))))
set_option maxHeartbeats 8000000 in
set_option maxRecDepth 100000 in
theorem laws_szLine.calls (A0_0:Option Addr) (c0_0:Nat) (l0_0:List (S100)) (a0_1:Int) (a0_2:Int) (a0_3:Int) (a0_4:Int) (A0_5:Option Addr) (c0_5:Nat) (l0_5:List (S120)) (a0_6:Int) (a1:Int) (r:Int) (w:World) (hr0_0:Kd.C k100 w A0_0 l0_0.length l0_0) (hc0_0:l0_0.length≤c0_0) (hr0_5:Kd.C k120 w A0_5 l0_5.length l0_5) (hc0_5:l0_5.length≤c0_5) (h:laws_szLine.f l0_0 a0_1 a0_2 a0_3 a0_4 l0_5 a0_6 a1=some r) :
  Calls Try.prog 19 #[.agg #[.slice A0_0 l0_0.length c0_0,.int .i64 a0_1,.int .i64 a0_2,.int .i64 a0_3,.int .i64 a0_4,.slice A0_5 l0_5.length c0_5,.int .i64 a0_6],.int .i64 a1] w fun e w'=>e = .returned (.int .i64 r)∧Below w.heap.size w w':=by
 have hu39:=Try.underlying39
 have hu24:=Try.underlying24
 have hu37:=Try.underlying37
 have HR0_0:=Aside0.mk hr0_0
 have HC0_0:=Aside0.mk hc0_0
 clear hr0_0 hc0_0
 have HR0_5:=Aside0.mk hr0_5
 have HC0_5:=Aside0.mk hc0_5
 clear hr0_5 hc0_5
 have HB:=Aside0.mk (Below.refl w.heap.size w)
 have H:((laws_szQueue.f l0_0 a0_1 a0_2 a0_3 a0_4 a1).bind fun t106=>(if t106 < 0 then (some (-1)) else ((laws_szHeap.f l0_5 a0_6 t106).bind fun t107=>(if t107 < 0 then (some (-1)) else (some t107)))))=some r:=h
 clear h
 replace H:=Option.bind_eq_some_iff.mp H
 obtain ⟨t106,A30,H⟩:=H
 have A3:=Aside0.mk A30
 clear A30
 by_cases c4:t106 < 0
 ·rw [if_pos c4] at H
  have c4b0:decide (t106 < 0)=true:=decide_eq_true c4
  clear c4
  obtain rfl:=Option.some.inj H
  go_enter Try.func19,Try.ntmps19
  go_wp2_with (first|((with_reducible refine gate_dst (N:=2) rfl ?_);refine bx 2 #[.slice A0_0 l0_0.length c0_0,.int .i64 a0_1,.int .i64 a0_2,.int .i64 a0_3,.int .i64 a0_4,.slice A0_5 l0_5.length c0_5,.int .i64 a0_6] 39 ?_;intro gb105 hg w5 hbox hb;have BK105:=Aside0.mk (hbox);have GW105:=Aside0.mk (bz hg:w.heap.size≤gb105);have GE105:=GW105;replace HB:=Aside0.mk (below_step bl hb);clear hb hbox hg;obtain ⟨hcz6_0,hcz6_1,hcz6_2,hcz6_3,hcz6_4,hcz6_5,hcz6_6,hfz6_0,hfz6_1,hfz6_2,hfz6_3,hfz6_4,hfz6_5,hfz6_6⟩:=ck7 BK105.out)|((with_reducible refine gate_callee (f:=12) rfl ?_);refine gl (some 8) Try.func12 #[.agg #[.slice A0_0 l0_0.length c0_0,.int .i64 a0_1,.int .i64 a0_2,.int .i64 a0_3,.int .i64 a0_4],.int .i64 a1] ?_;(with_reducible refine (laws_szQueue.calls _ _ l0_0 a0_1 a0_2 a0_3 a0_4 a1 t106 _ ?side1 ?side2 A3.out).mono ?_);(case side1=>exact kc HR0_0);(case side2=>exact HC0_0.out);rintro e w7 ⟨rfl,hb⟩;refine ⟨_,rfl,?_⟩;replace BK105:=Aside0.mk (blk_below (bk BK105) hb);replace HB:=Aside0.mk (below_step bl hb);(try clear hb);(try clear hb2);(try clear hk);(try clear hi)))
  go_ret
  exact ⟨er,bl⟩
 ·rw [if_neg c4] at H
  have c4b0:decide (t106 < 0)=false:=decide_eq_false c4
  clear c4
  replace H:=Option.bind_eq_some_iff.mp H
  obtain ⟨t107,A80,H⟩:=H
  have A8:=Aside0.mk A80
  clear A80
  by_cases c9:t107 < 0
  ·rw [if_pos c9] at H
   have c9b0:decide (t107 < 0)=true:=decide_eq_true c9
   clear c9
   obtain rfl:=Option.some.inj H
   go_enter Try.func19,Try.ntmps19
   go_wp2_with (first|((with_reducible refine gate_dst (N:=2) rfl ?_);refine bx 2 #[.slice A0_0 l0_0.length c0_0,.int .i64 a0_1,.int .i64 a0_2,.int .i64 a0_3,.int .i64 a0_4,.slice A0_5 l0_5.length c0_5,.int .i64 a0_6] 39 ?_;intro gb105 hg w10 hbox hb;have BK105:=Aside0.mk (hbox);have GW105:=Aside0.mk (bz hg:w.heap.size≤gb105);have GE105:=GW105;replace HB:=Aside0.mk (below_step bl hb);clear hb hbox hg;obtain ⟨hcz11_0,hcz11_1,hcz11_2,hcz11_3,hcz11_4,hcz11_5,hcz11_6,hfz11_0,hfz11_1,hfz11_2,hfz11_3,hfz11_4,hfz11_5,hfz11_6⟩:=ck7 BK105.out)|((with_reducible refine gate_callee (f:=12) rfl ?_);refine gl (some 8) Try.func12 #[.agg #[.slice A0_0 l0_0.length c0_0,.int .i64 a0_1,.int .i64 a0_2,.int .i64 a0_3,.int .i64 a0_4],.int .i64 a1] ?_;(with_reducible refine (laws_szQueue.calls _ _ l0_0 a0_1 a0_2 a0_3 a0_4 a1 t106 _ ?side1 ?side2 A3.out).mono ?_);(case side1=>exact kc HR0_0);(case side2=>exact HC0_0.out);rintro e w12 ⟨rfl,hb⟩;refine ⟨_,rfl,?_⟩;replace BK105:=Aside0.mk (blk_below (bk BK105) hb);replace HB:=Aside0.mk (below_step bl hb);(try clear hb);(try clear hb2);(try clear hk);(try clear hi);obtain ⟨hcz13_0,hcz13_1,hcz13_2,hcz13_3,hcz13_4,hcz13_5,hcz13_6,hfz13_0,hfz13_1,hfz13_2,hfz13_3,hfz13_4,hfz13_5,hfz13_6⟩:=ck7 BK105.out)|((with_reducible refine gate_callee (f:=59) rfl ?_);refine gl (some 14) Try.func59 #[.agg #[.slice A0_5 l0_5.length c0_5,.int .i64 a0_6],.int .i64 t106] ?_;(with_reducible refine (laws_szHeap.calls _ _ l0_5 a0_6 t106 t107 _ ?side1 ?side2 A8.out).mono ?_);(case side1=>exact kc HR0_5);(case side2=>exact HC0_5.out);rintro e w14 ⟨rfl,hb⟩;refine ⟨_,rfl,?_⟩;replace BK105:=Aside0.mk (blk_below (bk BK105) hb);replace HB:=Aside0.mk (below_step bl hb);(try clear hb);(try clear hb2);(try clear hk);(try clear hi)))
   go_ret
   exact ⟨er,bl⟩
  ·rw [if_neg c9] at H
   have c9b0:decide (t107 < 0)=false:=decide_eq_false c9
   clear c9
   obtain rfl:=Option.some.inj H
   go_enter Try.func19,Try.ntmps19
   go_wp2_with (first|((with_reducible refine gate_dst (N:=2) rfl ?_);refine bx 2 #[.slice A0_0 l0_0.length c0_0,.int .i64 a0_1,.int .i64 a0_2,.int .i64 a0_3,.int .i64 a0_4,.slice A0_5 l0_5.length c0_5,.int .i64 a0_6] 39 ?_;intro gb105 hg w15 hbox hb;have BK105:=Aside0.mk (hbox);have GW105:=Aside0.mk (bz hg:w.heap.size≤gb105);have GE105:=GW105;replace HB:=Aside0.mk (below_step bl hb);clear hb hbox hg;obtain ⟨hcz16_0,hcz16_1,hcz16_2,hcz16_3,hcz16_4,hcz16_5,hcz16_6,hfz16_0,hfz16_1,hfz16_2,hfz16_3,hfz16_4,hfz16_5,hfz16_6⟩:=ck7 BK105.out)|((with_reducible refine gate_callee (f:=12) rfl ?_);refine gl (some 8) Try.func12 #[.agg #[.slice A0_0 l0_0.length c0_0,.int .i64 a0_1,.int .i64 a0_2,.int .i64 a0_3,.int .i64 a0_4],.int .i64 a1] ?_;(with_reducible refine (laws_szQueue.calls _ _ l0_0 a0_1 a0_2 a0_3 a0_4 a1 t106 _ ?side1 ?side2 A3.out).mono ?_);(case side1=>exact kc HR0_0);(case side2=>exact HC0_0.out);rintro e w17 ⟨rfl,hb⟩;refine ⟨_,rfl,?_⟩;replace BK105:=Aside0.mk (blk_below (bk BK105) hb);replace HB:=Aside0.mk (below_step bl hb);(try clear hb);(try clear hb2);(try clear hk);(try clear hi);obtain ⟨hcz18_0,hcz18_1,hcz18_2,hcz18_3,hcz18_4,hcz18_5,hcz18_6,hfz18_0,hfz18_1,hfz18_2,hfz18_3,hfz18_4,hfz18_5,hfz18_6⟩:=ck7 BK105.out)|((with_reducible refine gate_callee (f:=59) rfl ?_);refine gl (some 14) Try.func59 #[.agg #[.slice A0_5 l0_5.length c0_5,.int .i64 a0_6],.int .i64 t106] ?_;(with_reducible refine (laws_szHeap.calls _ _ l0_5 a0_6 t106 t107 _ ?side1 ?side2 A8.out).mono ?_);(case side1=>exact kc HR0_5);(case side2=>exact HC0_5.out);rintro e w19 ⟨rfl,hb⟩;refine ⟨_,rfl,?_⟩;replace BK105:=Aside0.mk (blk_below (bk BK105) hb);replace HB:=Aside0.mk (below_step bl hb);(try clear hb);(try clear hb2);(try clear hk);(try clear hi)))
   go_ret
   exact ⟨er,bl⟩

/-! ### laws_toSlot: function 84 -/
def laws_toSlot.f (a0_0:Int) (a0_1:Int) (a0_2:Int) (a0_3:Bool):Option (Int × Int × Int × Bool):=some (a0_0,a0_1,a0_2,a0_3)
set_option maxHeartbeats 8000000 in
set_option maxRecDepth 100000 in
theorem laws_toSlot.calls (a0_0:Int) (a0_1:Int) (a0_2:Int) (a0_3:Bool) (r1:Int) (r2:Int) (r3:Int) (r4:Bool) (w:World) (h:laws_toSlot.f a0_0 a0_1 a0_2 a0_3=some (r1,r2,r3,r4)) :
  Calls Try.prog 84 #[.agg #[.int .i64 a0_0,.int .i64 a0_1,.int .i64 a0_2,.bool a0_3]] w fun e w'=>e = .returned (.agg #[.int .i64 r1,.int .i64 r2,.int .i64 r3,.bool r4])∧Below w.heap.size w w':=by
 have hu100:=Try.underlying100
 have hu97:=Try.underlying97
 have HB:=Aside0.mk (Below.refl w.heap.size w)
 have H:(some (a0_0,a0_1,a0_2,a0_3))=some (r1,r2,r3,r4):=h
 clear h
 simp only [Option.some.injEq,Prod.mk.injEq] at H
 obtain ⟨rfl,rfl,rfl,rfl⟩:=H
 go_enter Try.func84,Try.ntmps84
 go_wp2_with (first|((with_reducible refine gate_dst (N:=1) rfl ?_);refine bx 1 #[.int .i64 a0_0,.int .i64 a0_1,.int .i64 a0_2,.bool a0_3] 100 ?_;intro gb108 hg w2 hbox hb;have BK108:=Aside0.mk (hbox);have GW108:=Aside0.mk (bz hg:w.heap.size≤gb108);have GE108:=GW108;replace HB:=Aside0.mk (below_step bl hb);clear hb hbox hg)|((with_reducible refine gate_dst (N:=2) rfl ?_);refine bx 2 #[.int .i64 0,.int .i64 0,.int .i64 0,.bool false] 97 ?_;intro gb109 hg w3 hbox hb;have BK109:=Aside0.mk (hbox);have GW109:=Aside0.mk (bz hg:w.heap.size≤gb109);have GE109:=GW109;replace HB:=Aside0.mk (below_step bl hb);have NB108_109:=Aside0.mk (nl hg BK108:gb108≠gb109);have NB109_108:=Aside0.mk (nr hg BK108:gb109≠gb108);replace BK108:=Aside0.mk (blk_below (bk BK108) hb);clear hb hbox hg)|((with_reducible refine gate_dst (N:=3) rfl ?_);refine bx 3 #[.int .i64 0,.int .i64 0,.int .i64 0,.bool false] 97 ?_;intro gb110 hg w4 hbox hb;have BK110:=Aside0.mk (hbox);have GW110:=Aside0.mk (bz hg:w.heap.size≤gb110);have GE110:=GW110;replace HB:=Aside0.mk (below_step bl hb);have NB108_110:=Aside0.mk (nl hg BK108:gb108≠gb110);have NB110_108:=Aside0.mk (nr hg BK108:gb110≠gb108);replace BK108:=Aside0.mk (blk_below (bk BK108) hb);have NB109_110:=Aside0.mk (nl hg BK109:gb109≠gb110);have NB110_109:=Aside0.mk (nr hg BK109:gb110≠gb109);replace BK109:=Aside0.mk (blk_below (bk BK109) hb);clear hb hbox hg;have hnb5:=NB108_109.out;have hnc5:=NB109_108.out;have hnb6:=NB108_110.out;have hnc6:=NB110_108.out;obtain ⟨hcz7_0,hcz7_1,hcz7_2,hcz7_3,hfz7_0,hfz7_1,hfz7_2,hfz7_3⟩:=ck4 BK108.out;have hnb8:=NB110_109.out;have hnc8:=NB109_110.out;obtain ⟨hcz9_0,hcz9_1,hcz9_2,hcz9_3,hfz9_0,hfz9_1,hfz9_2,hfz9_3⟩:=ck4 BK110.out;obtain ⟨hcz10_0,hcz10_1,hcz10_2,hcz10_3,hfz10_0,hfz10_1,hfz10_2,hfz10_3⟩:=ck4 BK109.out))
 refine bodyPost_ret (results_cell_row rfl _ _ gb109 97 #[.int .i64 a0_0,.int .i64 a0_1,.int .i64 a0_2,.bool a0_3] (0,0) _ rfl (by (with_reducible repeat (first|refine blk_drewN ?_ _|refine blk_drew ?_|refine blk_alloc ?_ _));refine blk_put (cs:=#[.int .i64 a0_0,.int .i64 a0_1,.int .i64 a0_2,.bool false]) ?_ 3 _ rfl;(with_reducible repeat (first|refine blk_drewN ?_ _|refine blk_drew ?_|refine blk_alloc ?_ _));refine blk_put (cs:=#[.int .i64 a0_0,.int .i64 a0_1,.int .i64 0,.bool false]) ?_ 2 _ rfl;(with_reducible repeat (first|refine blk_drewN ?_ _|refine blk_drew ?_|refine blk_alloc ?_ _));refine blk_put (cs:=#[.int .i64 a0_0,.int .i64 0,.int .i64 0,.bool false]) ?_ 1 _ rfl;(with_reducible repeat (first|refine blk_drewN ?_ _|refine blk_drew ?_|refine blk_alloc ?_ _));refine blk_put (cs:=#[.int .i64 0,.int .i64 0,.int .i64 0,.bool false]) ?_ 0 _ rfl;(with_reducible repeat (first|refine blk_drewN ?_ _|refine blk_drew ?_|refine blk_alloc ?_ _));refine blk_far ?_ NB109_110.out _;(with_reducible repeat (first|refine blk_drewN ?_ _|refine blk_drew ?_|refine blk_alloc ?_ _));refine blk_far ?_ NB109_110.out _;(with_reducible repeat (first|refine blk_drewN ?_ _|refine blk_drew ?_|refine blk_alloc ?_ _));refine blk_far ?_ NB109_110.out _;(with_reducible repeat (first|refine blk_drewN ?_ _|refine blk_drew ?_|refine blk_alloc ?_ _));refine blk_far ?_ NB109_110.out _;(with_reducible repeat (first|refine blk_drewN ?_ _|refine blk_drew ?_|refine blk_alloc ?_ _));exact BK109.out) Try.underlying97 rfl (by kernel_rfl)) rfl ?_
 exact ⟨er,bl⟩

/-! ### laws_toSlotS: function 51 -/
def laws_toSlotS.l0:Nat→List (S100)→List (S97)→Int→Option ((List (S97)))
 | 0,_,_,_=>none
 | k + 1,x0,x3,x4=>if x4 < (x0.length:Int) then (if 0≤x4 then ((laws_toSlot.f ((rd_T100 x0 x4).f0) ((rd_T100 x0 x4).f1) ((rd_T100 x0 x4).f2) ((rd_T100 x0 x4).f3)).bind fun bt115=>(if x4 < (x3.length:Int) then (laws_toSlotS.l0 k x0 (x3.set (x4:Int).toNat (⟨bt115.1,bt115.2.1,bt115.2.2.1,bt115.2.2.2⟩:S97)) (wrap64 (x4 + 1))) else (none))) else (none)) else (some x3)
def laws_toSlotS.f (k:Nat) (l0:List (S100)):Option ((List (S97))):=if 0≤(l0.length:Int) then (if ((l0.length:Int):Int).toNat≤8796093022208 then (laws_toSlotS.l0 k l0 (List.replicate ((l0.length:Int):Int).toNat z97) 0) else (none)) else (none)
theorem laws_toSlotS.mono_l:∀ k,(∀ y0 y1 y2,LeO (laws_toSlotS.l0 k y0 y1 y2) (laws_toSlotS.l0 (k + 1) y0 y1 y2))
 | 0=>fun _ _ _ r h=>by simp [laws_toSlotS.l0] at h
 | k + 1=>by
  have ih0:=laws_toSlotS.mono_l k
  ·intro y0 y1 y2
   unfold laws_toSlotS.l0
   repeat' first
   | (with_reducible exact ih0 _ _ _)
   | (with_reducible exact LeO.refl _)
   | (with_reducible exact LeO.none _)
   | (with_reducible refine LeO.ite ?_ ?_)
   | (with_reducible refine LeO.bind ?_ (fun _=>?_))
   | exact ih0 _ _ _
   | exact LeO.none _
   | refine LeO.ite ?_ ?_
   | refine LeO.bind ?_ (fun _=>?_)
theorem laws_toSlotS.mono:∀ a0 k,LeO (laws_toSlotS.f k a0) (laws_toSlotS.f (k + 1) a0):=by
 intro a0 k
 have ih0:=laws_toSlotS.mono_l k
 unfold laws_toSlotS.f
 repeat' first
   | (with_reducible exact ih0 _ _ _)
   | (with_reducible exact LeO.refl _)
   | (with_reducible exact LeO.none _)
   | (with_reducible refine LeO.ite ?_ ?_)
   | (with_reducible refine LeO.bind ?_ (fun _=>?_))
   | exact ih0 _ _ _
   | exact LeO.none _
   | refine LeO.ite ?_ ?_
   | refine LeO.bind ?_ (fun _=>?_)
set_option maxHeartbeats 8000000 in
set_option maxRecDepth 100000 in
theorem laws_toSlotS.calls (k:Nat) (A0:Option Addr) (c0:Nat) (l0:List (S100)) (r:List (S97)) (w:World) (hr0:Kd.C k100 w A0 l0.length l0) (hc0:l0.length≤c0) (h:laws_toSlotS.f k l0=some r) :
  Calls Try.prog 51 #[.slice A0 l0.length c0] w fun e w'=>∃ v0_:Value,e = .returned (v0_)∧Kd.R k97 97 w' w.heap.size (fun _=>True) v0_ r∧Below w.heap.size w w':=by
 have hu100:=Try.underlying100
 have hu97:=Try.underlying97
 have HR0:=Aside0.mk hr0
 have HC0:=Aside0.mk hc0
 clear hr0 hc0
 have HB:=Aside0.mk (Below.refl w.heap.size w)
 have H:(if 0≤(l0.length:Int) then (if ((l0.length:Int):Int).toNat≤8796093022208 then (laws_toSlotS.l0 k l0 (List.replicate ((l0.length:Int):Int).toNat z97) 0) else (none)) else (none))=some r:=h
 clear h
 by_cases c2:0≤(l0.length:Int)
 ·rw [if_pos c2] at H
  have c2b0:=eq_true c2
  have c2b1:decide (0≤(l0.length:Int))=true:=decide_eq_true c2
  clear c2
  by_cases c3:((l0.length:Int):Int).toNat≤8796093022208
  case neg =>
   rw [if_neg c3] at H
   exact absurd H (by simp)
  rw [if_pos c3] at H
  have c3b0:=eq_true c3
  have c3b1:decide (((l0.length:Int):Int).toNat≤8796093022208)=true:=decide_eq_true c3
  clear c3
  obtain ⟨y111,hy111⟩:∃ y_:List (S97),y_=(List.replicate ((l0.length:Int):Int).toNat z97):=⟨_,rfl⟩
  replace H:(laws_toSlotS.l0 k l0 y111 0)=some r:=by first|(rw [hy111];with_reducible exact H)|(have H2_:=(Option.bind_some _ _).symm.trans H;rw [hy111];with_reducible exact H2_)|(have H2_:=(Option.bind_some _ _).symm.trans H;with_reducible exact H2_)|with_reducible exact H|(rw [hy111];exact H)|exact H
  have Ny111:=Aside0.mk hy111
  clear hy111
  have H':=Aside0.mk H
  clear H
  go_enter Try.func51,Try.ntmps51
  go_wp2_with (first|((with_reducible refine gate_dst (N:=7) rfl ?_);refine Kd.R_make k97 _ 97 rfl (N:=7) rfl 26 _ _ rfl (l0.length:Int) rfl rfl Try.underlying26 (.agg #[(.int .i64 0),(.int .i64 0),(.int .i64 0),(.bool false)]) 32 info97 rfl (by decide) (by omega) z97 (ok:=fun _=>True) (okp:=fun _=>True) (k97_mkM _ _ _ z97 ) (fun _ hk=>hk) trivial od (Nat.le_trans (Nat.mul_le_mul_right _ (od:(l0.length:Int).toNat≤8796093022208)) (by omega)) (Below.refl _ _) (Nat.le_refl _) ?_;intro v112 w4 ho5 hb hg_ hnew_;clear hg_ hnew_;(first|rw [← Ny111.out] at ho5|(simp only [Int.reduceToNat] at ho5;rw [← Ny111.out] at ho5));have HO113:=Aside0.mk (Kd.R_lower ho5 (below_size bl));replace HB:=Aside0.mk (below_step bl hb);clear hb ho5))
  go_loopg [4] k (fun kq v4 w'=>∃ (x3_1:List (S97)) (x4_1:Int),v4 = .int .i64 x4_1∧Aside0 (laws_toSlotS.l0 kq l0 x3_1 x4_1=some r)∧Aside0 (kq≤k)∧Aside0 (Kd.R k97 97 w' w.heap.size (fun _=>True) v112 x3_1)∧Aside0 (Below w.heap.size w w'))
  case atStart=>exact ⟨(y111),(0),(by first|rfl|(simp;done)|(simp [*];done)),H',⟨Nat.le_refl _⟩,⟨kr HO113⟩,⟨bl⟩⟩
  case round =>
   clear H'
   try clear c2
   try clear c2b0
   try clear c2b1
   try clear p2
   try clear c3
   try clear c3b0
   try clear c3b1
   try clear c5
   obtain ⟨x3_1,x4_1,rfl,HA,HK1,HO_3,HB⟩:=hrel
   cases gk with
   | zero=>exact absurd HA.out (by simp [laws_toSlotS.l0])
   | succ k1 =>
    have H:=HA.out
    clear HA
    simp only [laws_toSlotS.l0] at H
    by_cases c6:x4_1 < (l0.length:Int)
    ·rw [if_pos c6] at H
     have c6b0:decide (x4_1 < (l0.length:Int))=true:=decide_eq_true c6
     clear c6
     by_cases c7:0≤x4_1
     case neg =>
      rw [if_neg c7] at H
      exact absurd H (by simp)
     rw [if_pos c7] at H
     have c7b0:decide (0≤x4_1)=true:=decide_eq_true c7
     clear c7
     replace H:=Option.bind_eq_some_iff.mp H
     obtain ⟨⟨t115,t116,t117,t118⟩,A80,H⟩:=H
     replace H:(if x4_1 < (x3_1.length:Int) then (laws_toSlotS.l0 k1 l0 (x3_1.set (x4_1:Int).toNat (⟨t115,t116,t117,t118⟩:S97)) (wrap64 (x4_1 + 1))) else (none))=some r:=H
     have A8:=Aside0.mk A80
     clear A80
     by_cases c9:x4_1 < (x3_1.length:Int)
     case neg =>
      rw [if_neg c9] at H
      exact absurd H (by simp)
     rw [if_pos c9] at H
     have c9b0:decide (x4_1 < (x3_1.length:Int))=true:=decide_eq_true c9
     clear c9
     obtain ⟨y119,hy119⟩:∃ y_:List (S97),y_=(x3_1.set (x4_1:Int).toNat (⟨t115,t116,t117,t118⟩:S97)):=⟨_,rfl⟩
     replace H:(laws_toSlotS.l0 k1 l0 y119 (wrap64 (x4_1 + 1)))=some r:=by first|(rw [hy119];with_reducible exact H)|(have H2_:=(Option.bind_some _ _).symm.trans H;rw [hy119];with_reducible exact H2_)|(have H2_:=(Option.bind_some _ _).symm.trans H;with_reducible exact H2_)|with_reducible exact H|(rw [hy119];exact H)|exact H
     have Ny119:=Aside0.mk hy119
     clear hy119
     have H':=Aside0.mk H
     clear H
     have p114:0≤(x4_1:Int):=od
     have q114:x4_1 < (l0.length:Int):=od
     obtain ⟨ad114,e114,hx114_0,hx114_1,hx114_2,hx114_3⟩:=at_T100 HR0.out x4_1 p114 q114
     cases e114
     replace hx114_0:=cl HB hx114_0
     replace hx114_1:=cl HB hx114_1
     replace hx114_2:=cl HB hx114_2
     replace hx114_3:=cl HB hx114_3
     replace p114:=eq_true p114
     replace q114:=eq_true q114
     go_wp2_with (first|((with_reducible refine gate_callee (f:=84) rfl ?_);refine gl (some 20) Try.func84 #[.agg #[.int .i64 ((rd_T100 l0 x4_1).f0),.int .i64 ((rd_T100 l0 x4_1).f1),.int .i64 ((rd_T100 l0 x4_1).f2),.bool ((rd_T100 l0 x4_1).f3)]] ?_;(with_reducible refine (laws_toSlot.calls ((rd_T100 l0 x4_1).f0) ((rd_T100 l0 x4_1).f1) ((rd_T100 l0 x4_1).f2) ((rd_T100 l0 x4_1).f3) t115 t116 t117 t118 _ A8.out).mono ?_);rintro e w11 ⟨rfl,hb⟩;refine ⟨_,rfl,?_⟩;replace HO_3:=Aside0.mk (Kd.R_below (kr HO_3) hb);replace HB:=Aside0.mk (below_step bl hb);(try clear hb);(try clear hb2);(try clear hk);(try clear hi);have p10:0≤(x4_1:Int):=od;have q10:(x4_1:Int) < ((x3_1.length:Int):Int):=od;obtain ⟨go10,co10,eo10,gb10,gl10,cl10,HG10⟩:=Kd.R_form HO_3.out (by omega);(first|cases eo10|(injection eo10 with ea_ en_ ec_;(first|subst ea_|(injection ea_ with ea_;subst ea_));subst ec_;clear en_));have GB10:=Aside0.mk gb10;have GG10:=Aside0.mk HG10;clear gb10 gl10 HG10;obtain ⟨ce10,hcl10,hM10,hcc10,hfr10⟩:=Kd.R_elem HO_3.out z97 (x4_1:Int) p10 q10;obtain rfl:=k97_openM hM10;have hx10_0:w11.cell? ⟨go10,(x4_1:Int).toNat * 4,none⟩=some (.int .i64 ((rd_T97 x3_1 x4_1).f0)):=hcc10 0 _ rfl;have hx10_1:w11.cell? ⟨go10,(x4_1:Int).toNat * 4 + 1,none⟩=some (.int .i64 ((rd_T97 x3_1 x4_1).f1)):=hcc10 1 _ rfl;have hx10_2:w11.cell? ⟨go10,(x4_1:Int).toNat * 4 + 2,none⟩=some (.int .i64 ((rd_T97 x3_1 x4_1).f2)):=hcc10 2 _ rfl;have hx10_3:w11.cell? ⟨go10,(x4_1:Int).toNat * 4 + 3,none⟩=some (.bool ((rd_T97 x3_1 x4_1).f3)):=hcc10 3 _ rfl;have hf10_0:w11.frozen? ⟨go10,(x4_1:Int).toNat * 4,none⟩=false:=hfr10 0;have hf10_1:w11.frozen? ⟨go10,(x4_1:Int).toNat * 4 + 1,none⟩=false:=hfr10 1;have hf10_2:w11.frozen? ⟨go10,(x4_1:Int).toNat * 4 + 2,none⟩=false:=hfr10 2;have hf10_3:w11.frozen? ⟨go10,(x4_1:Int).toNat * 4 + 3,none⟩=false:=hfr10 3;clear hcl10 hcc10 hfr10 hM10;replace p10:=eq_true p10;replace q10:=eq_true q10;have HX12:=Aside0.mk (show Kd.R k97 97 w11 w.heap.size (fun _=>True) (.slice (some ⟨go10,0,none⟩) x3_1.length co10) x3_1 from (kr HO_3));obtain ⟨ce12,hcl12,hM12,hcc12,hfr12⟩:=Kd.R_elem HX12.out z97 (x4_1:Int) od (by have h_:(x4_1:Int) < ((x3_1.length:Int):Int):=od;first|exact h_|(have e_:=(Kd.R_reads' HO_3.out).1;omega)|simpa using h_);obtain rfl:=k97_openM hM12;have HP12:=Kd.R_seg HX12.out (x4_1:Int) od (by have h_:(x4_1:Int) < ((x3_1.length:Int):Int):=od;first|exact h_|(have e_:=(Kd.R_reads' HO_3.out).1;omega)|simpa using h_) (seg:=[.int .i64 t115,.int .i64 t116,.int .i64 t117,.bool t118]) (j:=0) hcl12 hcc12 (show 4≤4 from by decide) (x':=(⟨t115,t116,t117,t118⟩:S97)) (k97_mkM _ _ _ (⟨t115,t116,t117,t118⟩:S97) ) (fun _ hk=>hk);have hx12_0:=hcc12 0 _ rfl;(try simp only [show (k97).sz=4 from rfl,Nat.mul_one,Nat.add_zero] at hx12_0);have hf12_0:=hfr12 0;(try simp only [show (k97).sz=4 from rfl,Nat.mul_one,Nat.add_zero] at hf12_0);have hx12_1:=hcc12 1 _ rfl;(try simp only [show (k97).sz=4 from rfl,Nat.mul_one,Nat.add_zero] at hx12_1);have hf12_1:=hfr12 1;(try simp only [show (k97).sz=4 from rfl,Nat.mul_one,Nat.add_zero] at hf12_1);have hx12_2:=hcc12 2 _ rfl;(try simp only [show (k97).sz=4 from rfl,Nat.mul_one,Nat.add_zero] at hx12_2);have hf12_2:=hfr12 2;(try simp only [show (k97).sz=4 from rfl,Nat.mul_one,Nat.add_zero] at hf12_2);have hx12_3:=hcc12 3 _ rfl;(try simp only [show (k97).sz=4 from rfl,Nat.mul_one,Nat.add_zero] at hx12_3);have hf12_3:=hfr12 3;(try simp only [show (k97).sz=4 from rfl,Nat.mul_one,Nat.add_zero] at hf12_3);clear hcl12 hcc12 hfr12 hM12)|((with_reducible refine gate_store (t:=97) (p:=21) rfl ?_);refine sx 97 21 ((((w11.setCell ⟨go10,(x4_1:Int).toNat * 4,none⟩ (.int .i64 t115)).setCell ⟨go10,(x4_1:Int).toNat * 4 + 1,none⟩ (.int .i64 t116)).setCell ⟨go10,(x4_1:Int).toNat * 4 + 2,none⟩ (.int .i64 t117)).setCell ⟨go10,(x4_1:Int).toNat * 4 + 3,none⟩ (.bool t118)) ?_;intro w13 hw;have hg:w11.grownBy w13 (some go10):=(by rw [hw];exact HP12.2);have hp_:Kd.R k97 97 w13 w.heap.size (fun _=>True) (.slice (some ⟨go10,0,none⟩) x3_1.length co10) y119:=(by rw [hw,Ny119.out];exact HP12.1);clear HP12;replace HO_3:=Aside0.mk (hp_);replace HB:=Aside0.mk ((by rw [hw];exact below_set (below_set (below_set (below_set (HB.out) GB10.out) GB10.out) GB10.out) GB10.out:Below w.heap.size w w13));clear hg hw hp_))
     go_roundg k1
     case measure=>have:=HK1.out;omega
     case rel=>exact ⟨(y119),(wrap64 (x4_1 + 1)),(by first|rfl|(simp;done)|(simp [*];done)),H',⟨by have:=HK1.out;omega⟩,⟨kr HO_3⟩,⟨bl⟩⟩
    ·rw [if_neg c6] at H
     have c6b0:decide (x4_1 < (l0.length:Int))=false:=decide_eq_false c6
     clear c6
     obtain rfl:=Option.some.inj H
     go_wp2
     go_ret
     exact ⟨_,er,kr HO_3,bl⟩
 ·rw [if_neg c2] at H
  exact absurd H (by simp)

/-! ### laws_toQueue: function 14 -/
def laws_toQueue.f (k:Nat) (l0_0:List (S100)) (a0_1:Int) (a0_2:Int) (a0_3:Int) (a0_4:Int):Option ((List (S97)) × Int × Int × Int × Int):=(laws_toSlotS.f k l0_0).bind fun t123=>(some (t123,a0_1,a0_2,a0_3,a0_4))
theorem laws_toQueue.mono:∀ a0 a1 a2 a3 a4 k,LeO (laws_toQueue.f k a0 a1 a2 a3 a4) (laws_toQueue.f (k + 1) a0 a1 a2 a3 a4):=by
 intro a0 a1 a2 a3 a4 k
 unfold laws_toQueue.f
 repeat' first
   | (with_reducible exact laws_toSlotS.mono _ _)
   | (with_reducible exact LeO.refl _)
   | (with_reducible exact LeO.none _)
   | (with_reducible refine LeO.ite ?_ ?_)
   | (with_reducible refine LeO.bind ?_ (fun _=>?_))
   | exact laws_toSlotS.mono _ _
   | exact LeO.none _
   | refine LeO.ite ?_ ?_
   | refine LeO.bind ?_ (fun _=>?_)
set_option maxHeartbeats 8000000 in
set_option maxRecDepth 100000 in
theorem laws_toQueue.calls (k:Nat) (A0_0:Option Addr) (c0_0:Nat) (l0_0:List (S100)) (a0_1:Int) (a0_2:Int) (a0_3:Int) (a0_4:Int) (r1:List (S97)) (r2:Int) (r3:Int) (r4:Int) (r5:Int) (w:World) (hr0_0:Kd.C k100 w A0_0 l0_0.length l0_0) (hc0_0:l0_0.length≤c0_0) (h:laws_toQueue.f k l0_0 a0_1 a0_2 a0_3 a0_4=some (r1,r2,r3,r4,r5)) :
  Calls Try.prog 14 #[.agg #[.slice A0_0 l0_0.length c0_0,.int .i64 a0_1,.int .i64 a0_2,.int .i64 a0_3,.int .i64 a0_4]] w fun e w'=>∃ v0_:Value,e = .returned (.agg #[v0_,.int .i64 r2,.int .i64 r3,.int .i64 r4,.int .i64 r5])∧Kd.R k97 97 w' w.heap.size (fun _=>True) v0_ r1∧Below w.heap.size w w':=by
 have hu24:=Try.underlying24
 have hu28:=Try.underlying28
 have HR0_0:=Aside0.mk hr0_0
 have HC0_0:=Aside0.mk hc0_0
 clear hr0_0 hc0_0
 have HB:=Aside0.mk (Below.refl w.heap.size w)
 have H:((laws_toSlotS.f k l0_0).bind fun t123=>(some (t123,a0_1,a0_2,a0_3,a0_4)))=some (r1,r2,r3,r4,r5):=h
 clear h
 replace H:=Option.bind_eq_some_iff.mp H
 obtain ⟨t123,A20,H⟩:=H
 have A2:=Aside0.mk A20
 clear A20
 simp only [Option.some.injEq,Prod.mk.injEq] at H
 obtain ⟨rfl,rfl,rfl,rfl,rfl⟩:=H
 go_enter Try.func14,Try.ntmps14
 go_wp2_with (first|((with_reducible refine gate_dst (N:=1) rfl ?_);refine bx 1 #[.slice A0_0 l0_0.length c0_0,.int .i64 a0_1,.int .i64 a0_2,.int .i64 a0_3,.int .i64 a0_4] 24 ?_;intro gb120 hg w3 hbox hb;have BK120:=Aside0.mk (hbox);have GW120:=Aside0.mk (bz hg:w.heap.size≤gb120);have GE120:=GW120;replace HB:=Aside0.mk (below_step bl hb);clear hb hbox hg)|((with_reducible refine gate_dst (N:=2) rfl ?_);refine bx 2 #[.slice none 0 0,.int .i64 0,.int .i64 0,.int .i64 0,.int .i64 0] 28 ?_;intro gb121 hg w4 hbox hb;have BK121:=Aside0.mk (hbox);have GW121:=Aside0.mk (bz hg:w.heap.size≤gb121);have GE121:=GW121;replace HB:=Aside0.mk (below_step bl hb);have NB120_121:=Aside0.mk (nl hg BK120:gb120≠gb121);have NB121_120:=Aside0.mk (nr hg BK120:gb121≠gb120);replace BK120:=Aside0.mk (blk_below (bk BK120) hb);clear hb hbox hg)|((with_reducible refine gate_dst (N:=3) rfl ?_);refine bx 3 #[.slice none 0 0,.int .i64 0,.int .i64 0,.int .i64 0,.int .i64 0] 28 ?_;intro gb122 hg w5 hbox hb;have BK122:=Aside0.mk (hbox);have GW122:=Aside0.mk (bz hg:w.heap.size≤gb122);have GE122:=GW122;replace HB:=Aside0.mk (below_step bl hb);have NB120_122:=Aside0.mk (nl hg BK120:gb120≠gb122);have NB122_120:=Aside0.mk (nr hg BK120:gb122≠gb120);replace BK120:=Aside0.mk (blk_below (bk BK120) hb);have NB121_122:=Aside0.mk (nl hg BK121:gb121≠gb122);have NB122_121:=Aside0.mk (nr hg BK121:gb122≠gb121);replace BK121:=Aside0.mk (blk_below (bk BK121) hb);clear hb hbox hg;have hnb6:=NB120_121.out;have hnc6:=NB121_120.out;have hnb7:=NB120_122.out;have hnc7:=NB122_120.out;obtain ⟨hcz8_0,hcz8_1,hcz8_2,hcz8_3,hcz8_4,hfz8_0,hfz8_1,hfz8_2,hfz8_3,hfz8_4⟩:=ck5 BK120.out)|((with_reducible refine gate_callee (f:=51) rfl ?_);refine gl (some 6) Try.func51 #[.slice A0_0 l0_0.length c0_0] ?_;(with_reducible refine (laws_toSlotS.calls k _ _ l0_0 t123 _ ?side1 ?side2 A2.out).mono ?_);(case side1=>exact kc HR0_0);(case side2=>exact HC0_0.out);rintro e w9 ⟨v124,rfl,ho0,hb⟩;refine ⟨_,rfl,?_⟩;have HO125:=Aside0.mk (Kd.R_lower ho0 (below_size bl));replace BK120:=Aside0.mk (blk_below (bk BK120) hb);replace BK121:=Aside0.mk (blk_below (bk BK121) hb);replace BK122:=Aside0.mk (blk_below (bk BK122) hb);replace HB:=Aside0.mk (below_step bl hb);(try clear hb);(try clear hb2);(try clear hk);(try clear hi);(try clear ho0);obtain ⟨Ao10,co10,eo10⟩:=Kd.R_slice HO125.out;subst eo10;have hnb11:=NB122_121.out;have hnc11:=NB121_122.out;obtain ⟨hcz12_0,hcz12_1,hcz12_2,hcz12_3,hcz12_4,hfz12_0,hfz12_1,hfz12_2,hfz12_3,hfz12_4⟩:=ck5 BK122.out;obtain ⟨hcz13_0,hcz13_1,hcz13_2,hcz13_3,hcz13_4,hfz13_0,hfz13_1,hfz13_2,hfz13_3,hfz13_4⟩:=ck5 BK120.out;obtain ⟨hcz14_0,hcz14_1,hcz14_2,hcz14_3,hcz14_4,hfz14_0,hfz14_1,hfz14_2,hfz14_3,hfz14_4⟩:=ck5 BK121.out))
 refine bodyPost_ret (results_cell_row rfl _ _ gb121 28 #[.slice Ao10 t123.length co10,.int .i64 a0_1,.int .i64 a0_2,.int .i64 a0_3,.int .i64 a0_4] (0,0) _ rfl (by (with_reducible repeat (first|refine blk_drewN ?_ _|refine blk_drew ?_|refine blk_alloc ?_ _));refine blk_put (cs:=#[.slice Ao10 t123.length co10,.int .i64 a0_1,.int .i64 a0_2,.int .i64 a0_3,.int .i64 0]) ?_ 4 _ rfl;(with_reducible repeat (first|refine blk_drewN ?_ _|refine blk_drew ?_|refine blk_alloc ?_ _));refine blk_put (cs:=#[.slice Ao10 t123.length co10,.int .i64 a0_1,.int .i64 a0_2,.int .i64 0,.int .i64 0]) ?_ 3 _ rfl;(with_reducible repeat (first|refine blk_drewN ?_ _|refine blk_drew ?_|refine blk_alloc ?_ _));refine blk_put (cs:=#[.slice Ao10 t123.length co10,.int .i64 a0_1,.int .i64 0,.int .i64 0,.int .i64 0]) ?_ 2 _ rfl;(with_reducible repeat (first|refine blk_drewN ?_ _|refine blk_drew ?_|refine blk_alloc ?_ _));refine blk_put (cs:=#[.slice Ao10 t123.length co10,.int .i64 0,.int .i64 0,.int .i64 0,.int .i64 0]) ?_ 1 _ rfl;(with_reducible repeat (first|refine blk_drewN ?_ _|refine blk_drew ?_|refine blk_alloc ?_ _));refine blk_put (cs:=#[.slice none 0 0,.int .i64 0,.int .i64 0,.int .i64 0,.int .i64 0]) ?_ 0 _ rfl;(with_reducible repeat (first|refine blk_drewN ?_ _|refine blk_drew ?_|refine blk_alloc ?_ _));refine blk_far ?_ NB121_122.out _;(with_reducible repeat (first|refine blk_drewN ?_ _|refine blk_drew ?_|refine blk_alloc ?_ _));refine blk_far ?_ NB121_122.out _;(with_reducible repeat (first|refine blk_drewN ?_ _|refine blk_drew ?_|refine blk_alloc ?_ _));refine blk_far ?_ NB121_122.out _;(with_reducible repeat (first|refine blk_drewN ?_ _|refine blk_drew ?_|refine blk_alloc ?_ _));refine blk_far ?_ NB121_122.out _;(with_reducible repeat (first|refine blk_drewN ?_ _|refine blk_drew ?_|refine blk_alloc ?_ _));refine blk_far ?_ NB121_122.out _;(with_reducible repeat (first|refine blk_drewN ?_ _|refine blk_drew ?_|refine blk_alloc ?_ _));exact BK121.out) Try.underlying28 rfl (by kernel_rfl)) rfl ?_
 exact ⟨_,er,by (with_reducible repeat (first|apply Kd.R_alloc|apply Kd.R_drewN|apply Kd.R_drew));exact Kd.R_mono (Kd.R_far (p:=⟨gb121,4,none⟩) (Kd.R_far (p:=⟨gb121,3,none⟩) (Kd.R_far (p:=⟨gb121,2,none⟩) (Kd.R_far (p:=⟨gb121,1,none⟩) (Kd.R_far (p:=⟨gb121,0,none⟩) (Kd.R_far (p:=⟨gb122,4,none⟩) (Kd.R_far (p:=⟨gb122,3,none⟩) (Kd.R_far (p:=⟨gb122,2,none⟩) (Kd.R_far (p:=⟨gb122,1,none⟩) (Kd.R_far (p:=⟨gb122,0,none⟩) (Kd.R_types (Kd.R_types HO125.out BK122.out (by decide)) BK121.out (by decide)) (fun _ hk=>hk.1.2) (.slice Ao10 t123.length co10)) (fun _ hk=>hk.1.2) (.int .i64 a0_1)) (fun _ hk=>hk.1.2) (.int .i64 a0_2)) (fun _ hk=>hk.1.2) (.int .i64 a0_3)) (fun _ hk=>hk.1.2) (.int .i64 a0_4)) (fun _ hk=>hk.2) (.slice Ao10 t123.length co10)) (fun _ hk=>hk.2) (.int .i64 a0_1)) (fun _ hk=>hk.2) (.int .i64 a0_2)) (fun _ hk=>hk.2) (.int .i64 a0_3)) (fun _ hk=>hk.2) (.int .i64 a0_4)) (fun _ hk=>trivial),bl⟩

/-! ### laws_toDue: function 111 -/
def laws_toDue.f (a0_0:Int) (a0_1:Int) (a0_2:Int):Option (Int × Int × Int):=some (a0_0,a0_1,a0_2)
set_option maxHeartbeats 8000000 in
set_option maxRecDepth 100000 in
theorem laws_toDue.calls (a0_0:Int) (a0_1:Int) (a0_2:Int) (r1:Int) (r2:Int) (r3:Int) (w:World) (h:laws_toDue.f a0_0 a0_1 a0_2=some (r1,r2,r3)) :
  Calls Try.prog 111 #[.agg #[.int .i64 a0_0,.int .i64 a0_1,.int .i64 a0_2]] w fun e w'=>e = .returned (.agg #[.int .i64 r1,.int .i64 r2,.int .i64 r3])∧Below w.heap.size w w':=by
 have hu120:=Try.underlying120
 have hu86:=Try.underlying86
 have HB:=Aside0.mk (Below.refl w.heap.size w)
 have H:(some (a0_0,a0_1,a0_2))=some (r1,r2,r3):=h
 clear h
 simp only [Option.some.injEq,Prod.mk.injEq] at H
 obtain ⟨rfl,rfl,rfl⟩:=H
 go_enter Try.func111,Try.ntmps111
 go_wp2_with (first|((with_reducible refine gate_dst (N:=1) rfl ?_);refine bx 1 #[.int .i64 a0_0,.int .i64 a0_1,.int .i64 a0_2] 120 ?_;intro gb126 hg w2 hbox hb;have BK126:=Aside0.mk (hbox);have GW126:=Aside0.mk (bz hg:w.heap.size≤gb126);have GE126:=GW126;replace HB:=Aside0.mk (below_step bl hb);clear hb hbox hg)|((with_reducible refine gate_dst (N:=2) rfl ?_);refine bx 2 #[.int .i64 0,.int .i64 0,.int .i64 0] 86 ?_;intro gb127 hg w3 hbox hb;have BK127:=Aside0.mk (hbox);have GW127:=Aside0.mk (bz hg:w.heap.size≤gb127);have GE127:=GW127;replace HB:=Aside0.mk (below_step bl hb);have NB126_127:=Aside0.mk (nl hg BK126:gb126≠gb127);have NB127_126:=Aside0.mk (nr hg BK126:gb127≠gb126);replace BK126:=Aside0.mk (blk_below (bk BK126) hb);clear hb hbox hg)|((with_reducible refine gate_dst (N:=3) rfl ?_);refine bx 3 #[.int .i64 0,.int .i64 0,.int .i64 0] 86 ?_;intro gb128 hg w4 hbox hb;have BK128:=Aside0.mk (hbox);have GW128:=Aside0.mk (bz hg:w.heap.size≤gb128);have GE128:=GW128;replace HB:=Aside0.mk (below_step bl hb);have NB126_128:=Aside0.mk (nl hg BK126:gb126≠gb128);have NB128_126:=Aside0.mk (nr hg BK126:gb128≠gb126);replace BK126:=Aside0.mk (blk_below (bk BK126) hb);have NB127_128:=Aside0.mk (nl hg BK127:gb127≠gb128);have NB128_127:=Aside0.mk (nr hg BK127:gb128≠gb127);replace BK127:=Aside0.mk (blk_below (bk BK127) hb);clear hb hbox hg;have hnb5:=NB126_127.out;have hnc5:=NB127_126.out;have hnb6:=NB126_128.out;have hnc6:=NB128_126.out;obtain ⟨hcz7_0,hcz7_1,hcz7_2,hfz7_0,hfz7_1,hfz7_2⟩:=ck3 BK126.out;have hnb8:=NB128_127.out;have hnc8:=NB127_128.out;obtain ⟨hcz9_0,hcz9_1,hcz9_2,hfz9_0,hfz9_1,hfz9_2⟩:=ck3 BK128.out;obtain ⟨hcz10_0,hcz10_1,hcz10_2,hfz10_0,hfz10_1,hfz10_2⟩:=ck3 BK127.out))
 refine bodyPost_ret (results_cell_row rfl _ _ gb127 86 #[.int .i64 a0_0,.int .i64 a0_1,.int .i64 a0_2] (0,0) _ rfl (by (with_reducible repeat (first|refine blk_drewN ?_ _|refine blk_drew ?_|refine blk_alloc ?_ _));refine blk_put (cs:=#[.int .i64 a0_0,.int .i64 a0_1,.int .i64 0]) ?_ 2 _ rfl;(with_reducible repeat (first|refine blk_drewN ?_ _|refine blk_drew ?_|refine blk_alloc ?_ _));refine blk_put (cs:=#[.int .i64 a0_0,.int .i64 0,.int .i64 0]) ?_ 1 _ rfl;(with_reducible repeat (first|refine blk_drewN ?_ _|refine blk_drew ?_|refine blk_alloc ?_ _));refine blk_put (cs:=#[.int .i64 0,.int .i64 0,.int .i64 0]) ?_ 0 _ rfl;(with_reducible repeat (first|refine blk_drewN ?_ _|refine blk_drew ?_|refine blk_alloc ?_ _));refine blk_far ?_ NB127_128.out _;(with_reducible repeat (first|refine blk_drewN ?_ _|refine blk_drew ?_|refine blk_alloc ?_ _));refine blk_far ?_ NB127_128.out _;(with_reducible repeat (first|refine blk_drewN ?_ _|refine blk_drew ?_|refine blk_alloc ?_ _));refine blk_far ?_ NB127_128.out _;(with_reducible repeat (first|refine blk_drewN ?_ _|refine blk_drew ?_|refine blk_alloc ?_ _));exact BK127.out) Try.underlying86 rfl (by kernel_rfl)) rfl ?_
 exact ⟨er,bl⟩

/-! ### laws_toDueS: function 95 -/
def laws_toDueS.l0:Nat→List (S120)→List (S86)→Int→Option ((List (S86)))
 | 0,_,_,_=>none
 | k + 1,x0,x3,x4=>if x4 < (x0.length:Int) then (if 0≤x4 then ((laws_toDue.f ((rd_T120 x0 x4).f0) ((rd_T120 x0 x4).f1) ((rd_T120 x0 x4).f2)).bind fun bt133=>(if x4 < (x3.length:Int) then (laws_toDueS.l0 k x0 (x3.set (x4:Int).toNat (⟨bt133.1,bt133.2.1,bt133.2.2⟩:S86)) (wrap64 (x4 + 1))) else (none))) else (none)) else (some x3)
def laws_toDueS.f (k:Nat) (l0:List (S120)):Option ((List (S86))):=if 0≤(l0.length:Int) then (if ((l0.length:Int):Int).toNat≤11728124029610 then (laws_toDueS.l0 k l0 (List.replicate ((l0.length:Int):Int).toNat z86) 0) else (none)) else (none)
theorem laws_toDueS.mono_l:∀ k,(∀ y0 y1 y2,LeO (laws_toDueS.l0 k y0 y1 y2) (laws_toDueS.l0 (k + 1) y0 y1 y2))
 | 0=>fun _ _ _ r h=>by simp [laws_toDueS.l0] at h
 | k + 1=>by
  have ih0:=laws_toDueS.mono_l k
  ·intro y0 y1 y2
   unfold laws_toDueS.l0
   repeat' first
   | (with_reducible exact ih0 _ _ _)
   | (with_reducible exact LeO.refl _)
   | (with_reducible exact LeO.none _)
   | (with_reducible refine LeO.ite ?_ ?_)
   | (with_reducible refine LeO.bind ?_ (fun _=>?_))
   | exact ih0 _ _ _
   | exact LeO.none _
   | refine LeO.ite ?_ ?_
   | refine LeO.bind ?_ (fun _=>?_)
theorem laws_toDueS.mono:∀ a0 k,LeO (laws_toDueS.f k a0) (laws_toDueS.f (k + 1) a0):=by
 intro a0 k
 have ih0:=laws_toDueS.mono_l k
 unfold laws_toDueS.f
 repeat' first
   | (with_reducible exact ih0 _ _ _)
   | (with_reducible exact LeO.refl _)
   | (with_reducible exact LeO.none _)
   | (with_reducible refine LeO.ite ?_ ?_)
   | (with_reducible refine LeO.bind ?_ (fun _=>?_))
   | exact ih0 _ _ _
   | exact LeO.none _
   | refine LeO.ite ?_ ?_
   | refine LeO.bind ?_ (fun _=>?_)
set_option maxHeartbeats 8000000 in
set_option maxRecDepth 100000 in
theorem laws_toDueS.calls (k:Nat) (A0:Option Addr) (c0:Nat) (l0:List (S120)) (r:List (S86)) (w:World) (hr0:Kd.C k120 w A0 l0.length l0) (hc0:l0.length≤c0) (h:laws_toDueS.f k l0=some r) :
  Calls Try.prog 95 #[.slice A0 l0.length c0] w fun e w'=>∃ v0_:Value,e = .returned (v0_)∧Kd.R k86 86 w' w.heap.size (fun _=>True) v0_ r∧Below w.heap.size w w':=by
 have hu120:=Try.underlying120
 have hu86:=Try.underlying86
 have HR0:=Aside0.mk hr0
 have HC0:=Aside0.mk hc0
 clear hr0 hc0
 have HB:=Aside0.mk (Below.refl w.heap.size w)
 have H:(if 0≤(l0.length:Int) then (if ((l0.length:Int):Int).toNat≤11728124029610 then (laws_toDueS.l0 k l0 (List.replicate ((l0.length:Int):Int).toNat z86) 0) else (none)) else (none))=some r:=h
 clear h
 by_cases c2:0≤(l0.length:Int)
 ·rw [if_pos c2] at H
  have c2b0:=eq_true c2
  have c2b1:decide (0≤(l0.length:Int))=true:=decide_eq_true c2
  clear c2
  by_cases c3:((l0.length:Int):Int).toNat≤11728124029610
  case neg =>
   rw [if_neg c3] at H
   exact absurd H (by simp)
  rw [if_pos c3] at H
  have c3b0:=eq_true c3
  have c3b1:decide (((l0.length:Int):Int).toNat≤11728124029610)=true:=decide_eq_true c3
  clear c3
  obtain ⟨y129,hy129⟩:∃ y_:List (S86),y_=(List.replicate ((l0.length:Int):Int).toNat z86):=⟨_,rfl⟩
  replace H:(laws_toDueS.l0 k l0 y129 0)=some r:=by first|(rw [hy129];with_reducible exact H)|(have H2_:=(Option.bind_some _ _).symm.trans H;rw [hy129];with_reducible exact H2_)|(have H2_:=(Option.bind_some _ _).symm.trans H;with_reducible exact H2_)|with_reducible exact H|(rw [hy129];exact H)|exact H
  have Ny129:=Aside0.mk hy129
  clear hy129
  have H':=Aside0.mk H
  clear H
  go_enter Try.func95,Try.ntmps95
  go_wp2_with (first|((with_reducible refine gate_dst (N:=7) rfl ?_);refine Kd.R_make k86 _ 86 rfl (N:=7) rfl 42 _ _ rfl (l0.length:Int) rfl rfl Try.underlying42 (.agg #[(.int .i64 0),(.int .i64 0),(.int .i64 0)]) 24 info86 rfl (by decide) (by omega) z86 (ok:=fun _=>True) (okp:=fun _=>True) (k86_mkM _ _ _ z86 ) (fun _ hk=>hk) trivial od (Nat.le_trans (Nat.mul_le_mul_right _ (od:(l0.length:Int).toNat≤11728124029610)) (by omega)) (Below.refl _ _) (Nat.le_refl _) ?_;intro v130 w4 ho5 hb hg_ hnew_;clear hg_ hnew_;(first|rw [← Ny129.out] at ho5|(simp only [Int.reduceToNat] at ho5;rw [← Ny129.out] at ho5));have HO131:=Aside0.mk (Kd.R_lower ho5 (below_size bl));replace HB:=Aside0.mk (below_step bl hb);clear hb ho5))
  go_loopg [4] k (fun kq v4 w'=>∃ (x3_1:List (S86)) (x4_1:Int),v4 = .int .i64 x4_1∧Aside0 (laws_toDueS.l0 kq l0 x3_1 x4_1=some r)∧Aside0 (kq≤k)∧Aside0 (Kd.R k86 86 w' w.heap.size (fun _=>True) v130 x3_1)∧Aside0 (Below w.heap.size w w'))
  case atStart=>exact ⟨(y129),(0),(by first|rfl|(simp;done)|(simp [*];done)),H',⟨Nat.le_refl _⟩,⟨kr HO131⟩,⟨bl⟩⟩
  case round =>
   clear H'
   try clear c2
   try clear c2b0
   try clear c2b1
   try clear p2
   try clear c3
   try clear c3b0
   try clear c3b1
   obtain ⟨x3_1,x4_1,rfl,HA,HK1,HO_3,HB⟩:=hrel
   cases gk with
   | zero=>exact absurd HA.out (by simp [laws_toDueS.l0])
   | succ k1 =>
    have H:=HA.out
    clear HA
    simp only [laws_toDueS.l0] at H
    by_cases c6:x4_1 < (l0.length:Int)
    ·rw [if_pos c6] at H
     have c6b0:decide (x4_1 < (l0.length:Int))=true:=decide_eq_true c6
     clear c6
     by_cases c7:0≤x4_1
     case neg =>
      rw [if_neg c7] at H
      exact absurd H (by simp)
     rw [if_pos c7] at H
     have c7b0:decide (0≤x4_1)=true:=decide_eq_true c7
     clear c7
     replace H:=Option.bind_eq_some_iff.mp H
     obtain ⟨⟨t133,t134,t135⟩,A80,H⟩:=H
     replace H:(if x4_1 < (x3_1.length:Int) then (laws_toDueS.l0 k1 l0 (x3_1.set (x4_1:Int).toNat (⟨t133,t134,t135⟩:S86)) (wrap64 (x4_1 + 1))) else (none))=some r:=H
     have A8:=Aside0.mk A80
     clear A80
     by_cases c9:x4_1 < (x3_1.length:Int)
     case neg =>
      rw [if_neg c9] at H
      exact absurd H (by simp)
     rw [if_pos c9] at H
     have c9b0:decide (x4_1 < (x3_1.length:Int))=true:=decide_eq_true c9
     clear c9
     obtain ⟨y136,hy136⟩:∃ y_:List (S86),y_=(x3_1.set (x4_1:Int).toNat (⟨t133,t134,t135⟩:S86)):=⟨_,rfl⟩
     replace H:(laws_toDueS.l0 k1 l0 y136 (wrap64 (x4_1 + 1)))=some r:=by first|(rw [hy136];with_reducible exact H)|(have H2_:=(Option.bind_some _ _).symm.trans H;rw [hy136];with_reducible exact H2_)|(have H2_:=(Option.bind_some _ _).symm.trans H;with_reducible exact H2_)|with_reducible exact H|(rw [hy136];exact H)|exact H
     have Ny136:=Aside0.mk hy136
     clear hy136
     have H':=Aside0.mk H
     clear H
     have p132:0≤(x4_1:Int):=od
     have q132:x4_1 < (l0.length:Int):=od
     obtain ⟨ad132,e132,hx132_0,hx132_1,hx132_2⟩:=at_T120 HR0.out x4_1 p132 q132
     cases e132
     replace hx132_0:=cl HB hx132_0
     replace hx132_1:=cl HB hx132_1
     replace hx132_2:=cl HB hx132_2
     replace p132:=eq_true p132
     replace q132:=eq_true q132
     go_wp2_with (first|((with_reducible refine gate_callee (f:=111) rfl ?_);refine gl (some 20) Try.func111 #[.agg #[.int .i64 ((rd_T120 l0 x4_1).f0),.int .i64 ((rd_T120 l0 x4_1).f1),.int .i64 ((rd_T120 l0 x4_1).f2)]] ?_;(with_reducible refine (laws_toDue.calls ((rd_T120 l0 x4_1).f0) ((rd_T120 l0 x4_1).f1) ((rd_T120 l0 x4_1).f2) t133 t134 t135 _ A8.out).mono ?_);rintro e w11 ⟨rfl,hb⟩;refine ⟨_,rfl,?_⟩;replace HO_3:=Aside0.mk (Kd.R_below (kr HO_3) hb);replace HB:=Aside0.mk (below_step bl hb);(try clear hb);(try clear hb2);(try clear hk);(try clear hi);have p10:0≤(x4_1:Int):=od;have q10:(x4_1:Int) < ((x3_1.length:Int):Int):=od;obtain ⟨go10,co10,eo10,gb10,gl10,cl10,HG10⟩:=Kd.R_form HO_3.out (by omega);(first|cases eo10|(injection eo10 with ea_ en_ ec_;(first|subst ea_|(injection ea_ with ea_;subst ea_));subst ec_;clear en_));have GB10:=Aside0.mk gb10;have GG10:=Aside0.mk HG10;clear gb10 gl10 HG10;obtain ⟨ce10,hcl10,hM10,hcc10,hfr10⟩:=Kd.R_elem HO_3.out z86 (x4_1:Int) p10 q10;obtain rfl:=k86_openM hM10;have hx10_0:w11.cell? ⟨go10,(x4_1:Int).toNat * 3,none⟩=some (.int .i64 ((rd_T86 x3_1 x4_1).f0)):=hcc10 0 _ rfl;have hx10_1:w11.cell? ⟨go10,(x4_1:Int).toNat * 3 + 1,none⟩=some (.int .i64 ((rd_T86 x3_1 x4_1).f1)):=hcc10 1 _ rfl;have hx10_2:w11.cell? ⟨go10,(x4_1:Int).toNat * 3 + 2,none⟩=some (.int .i64 ((rd_T86 x3_1 x4_1).f2)):=hcc10 2 _ rfl;have hf10_0:w11.frozen? ⟨go10,(x4_1:Int).toNat * 3,none⟩=false:=hfr10 0;have hf10_1:w11.frozen? ⟨go10,(x4_1:Int).toNat * 3 + 1,none⟩=false:=hfr10 1;have hf10_2:w11.frozen? ⟨go10,(x4_1:Int).toNat * 3 + 2,none⟩=false:=hfr10 2;clear hcl10 hcc10 hfr10 hM10;replace p10:=eq_true p10;replace q10:=eq_true q10;have HX12:=Aside0.mk (show Kd.R k86 86 w11 w.heap.size (fun _=>True) (.slice (some ⟨go10,0,none⟩) x3_1.length co10) x3_1 from (kr HO_3));obtain ⟨ce12,hcl12,hM12,hcc12,hfr12⟩:=Kd.R_elem HX12.out z86 (x4_1:Int) od (by have h_:(x4_1:Int) < ((x3_1.length:Int):Int):=od;first|exact h_|(have e_:=(Kd.R_reads' HO_3.out).1;omega)|simpa using h_);obtain rfl:=k86_openM hM12;have HP12:=Kd.R_seg HX12.out (x4_1:Int) od (by have h_:(x4_1:Int) < ((x3_1.length:Int):Int):=od;first|exact h_|(have e_:=(Kd.R_reads' HO_3.out).1;omega)|simpa using h_) (seg:=[.int .i64 t133,.int .i64 t134,.int .i64 t135]) (j:=0) hcl12 hcc12 (show 3≤3 from by decide) (x':=(⟨t133,t134,t135⟩:S86)) (k86_mkM _ _ _ (⟨t133,t134,t135⟩:S86) ) (fun _ hk=>hk);have hx12_0:=hcc12 0 _ rfl;(try simp only [show (k86).sz=3 from rfl,Nat.mul_one,Nat.add_zero] at hx12_0);have hf12_0:=hfr12 0;(try simp only [show (k86).sz=3 from rfl,Nat.mul_one,Nat.add_zero] at hf12_0);have hx12_1:=hcc12 1 _ rfl;(try simp only [show (k86).sz=3 from rfl,Nat.mul_one,Nat.add_zero] at hx12_1);have hf12_1:=hfr12 1;(try simp only [show (k86).sz=3 from rfl,Nat.mul_one,Nat.add_zero] at hf12_1);have hx12_2:=hcc12 2 _ rfl;(try simp only [show (k86).sz=3 from rfl,Nat.mul_one,Nat.add_zero] at hx12_2);have hf12_2:=hfr12 2;(try simp only [show (k86).sz=3 from rfl,Nat.mul_one,Nat.add_zero] at hf12_2);clear hcl12 hcc12 hfr12 hM12)|((with_reducible refine gate_store (t:=86) (p:=21) rfl ?_);refine sx 86 21 (((w11.setCell ⟨go10,(x4_1:Int).toNat * 3,none⟩ (.int .i64 t133)).setCell ⟨go10,(x4_1:Int).toNat * 3 + 1,none⟩ (.int .i64 t134)).setCell ⟨go10,(x4_1:Int).toNat * 3 + 2,none⟩ (.int .i64 t135)) ?_;intro w13 hw;have hg:w11.grownBy w13 (some go10):=(by rw [hw];exact HP12.2);have hp_:Kd.R k86 86 w13 w.heap.size (fun _=>True) (.slice (some ⟨go10,0,none⟩) x3_1.length co10) y136:=(by rw [hw,Ny136.out];exact HP12.1);clear HP12;replace HO_3:=Aside0.mk (hp_);replace HB:=Aside0.mk ((by rw [hw];exact below_set (below_set (below_set (HB.out) GB10.out) GB10.out) GB10.out:Below w.heap.size w w13));clear hg hw hp_))
     go_roundg k1
     case measure=>have:=HK1.out;omega
     case rel=>exact ⟨(y136),(wrap64 (x4_1 + 1)),(by first|rfl|(simp;done)|(simp [*];done)),H',⟨by have:=HK1.out;omega⟩,⟨kr HO_3⟩,⟨bl⟩⟩
    ·rw [if_neg c6] at H
     have c6b0:decide (x4_1 < (l0.length:Int))=false:=decide_eq_false c6
     clear c6
     obtain rfl:=Option.some.inj H
     go_wp2
     go_ret
     exact ⟨_,er,kr HO_3,bl⟩
 ·rw [if_neg c2] at H
  exact absurd H (by simp)

/-! ### laws_toHeap: function 64 -/
def laws_toHeap.f (k:Nat) (l0_0:List (S120)) (a0_1:Int):Option ((List (S86)) × Int):=(laws_toDueS.f k l0_0).bind fun t140=>(some (t140,a0_1))
theorem laws_toHeap.mono:∀ a0 a1 k,LeO (laws_toHeap.f k a0 a1) (laws_toHeap.f (k + 1) a0 a1):=by
 intro a0 a1 k
 unfold laws_toHeap.f
 repeat' first
   | (with_reducible exact laws_toDueS.mono _ _)
   | (with_reducible exact LeO.refl _)
   | (with_reducible exact LeO.none _)
   | (with_reducible refine LeO.ite ?_ ?_)
   | (with_reducible refine LeO.bind ?_ (fun _=>?_))
   | exact laws_toDueS.mono _ _
   | exact LeO.none _
   | refine LeO.ite ?_ ?_
   | refine LeO.bind ?_ (fun _=>?_)
set_option maxHeartbeats 8000000 in
set_option maxRecDepth 100000 in
theorem laws_toHeap.calls (k:Nat) (A0_0:Option Addr) (c0_0:Nat) (l0_0:List (S120)) (a0_1:Int) (r1:List (S86)) (r2:Int) (w:World) (hr0_0:Kd.C k120 w A0_0 l0_0.length l0_0) (hc0_0:l0_0.length≤c0_0) (h:laws_toHeap.f k l0_0 a0_1=some (r1,r2)) :
  Calls Try.prog 64 #[.agg #[.slice A0_0 l0_0.length c0_0,.int .i64 a0_1]] w fun e w'=>∃ v0_:Value,e = .returned (.agg #[v0_,.int .i64 r2])∧Kd.R k86 86 w' w.heap.size (fun _=>True) v0_ r1∧Below w.heap.size w w':=by
 have hu37:=Try.underlying37
 have hu44:=Try.underlying44
 have HR0_0:=Aside0.mk hr0_0
 have HC0_0:=Aside0.mk hc0_0
 clear hr0_0 hc0_0
 have HB:=Aside0.mk (Below.refl w.heap.size w)
 have H:((laws_toDueS.f k l0_0).bind fun t140=>(some (t140,a0_1)))=some (r1,r2):=h
 clear h
 replace H:=Option.bind_eq_some_iff.mp H
 obtain ⟨t140,A20,H⟩:=H
 have A2:=Aside0.mk A20
 clear A20
 simp only [Option.some.injEq,Prod.mk.injEq] at H
 obtain ⟨rfl,rfl⟩:=H
 go_enter Try.func64,Try.ntmps64
 go_wp2_with (first|((with_reducible refine gate_dst (N:=1) rfl ?_);refine bx 1 #[.slice A0_0 l0_0.length c0_0,.int .i64 a0_1] 37 ?_;intro gb137 hg w3 hbox hb;have BK137:=Aside0.mk (hbox);have GW137:=Aside0.mk (bz hg:w.heap.size≤gb137);have GE137:=GW137;replace HB:=Aside0.mk (below_step bl hb);clear hb hbox hg)|((with_reducible refine gate_dst (N:=2) rfl ?_);refine bx 2 #[.slice none 0 0,.int .i64 0] 44 ?_;intro gb138 hg w4 hbox hb;have BK138:=Aside0.mk (hbox);have GW138:=Aside0.mk (bz hg:w.heap.size≤gb138);have GE138:=GW138;replace HB:=Aside0.mk (below_step bl hb);have NB137_138:=Aside0.mk (nl hg BK137:gb137≠gb138);have NB138_137:=Aside0.mk (nr hg BK137:gb138≠gb137);replace BK137:=Aside0.mk (blk_below (bk BK137) hb);clear hb hbox hg)|((with_reducible refine gate_dst (N:=3) rfl ?_);refine bx 3 #[.slice none 0 0,.int .i64 0] 44 ?_;intro gb139 hg w5 hbox hb;have BK139:=Aside0.mk (hbox);have GW139:=Aside0.mk (bz hg:w.heap.size≤gb139);have GE139:=GW139;replace HB:=Aside0.mk (below_step bl hb);have NB137_139:=Aside0.mk (nl hg BK137:gb137≠gb139);have NB139_137:=Aside0.mk (nr hg BK137:gb139≠gb137);replace BK137:=Aside0.mk (blk_below (bk BK137) hb);have NB138_139:=Aside0.mk (nl hg BK138:gb138≠gb139);have NB139_138:=Aside0.mk (nr hg BK138:gb139≠gb138);replace BK138:=Aside0.mk (blk_below (bk BK138) hb);clear hb hbox hg;have hnb6:=NB137_138.out;have hnc6:=NB138_137.out;have hnb7:=NB137_139.out;have hnc7:=NB139_137.out;obtain ⟨hcz8_0,hcz8_1,hfz8_0,hfz8_1⟩:=ck2 BK137.out)|((with_reducible refine gate_callee (f:=95) rfl ?_);refine gl (some 6) Try.func95 #[.slice A0_0 l0_0.length c0_0] ?_;(with_reducible refine (laws_toDueS.calls k _ _ l0_0 t140 _ ?side1 ?side2 A2.out).mono ?_);(case side1=>exact kc HR0_0);(case side2=>exact HC0_0.out);rintro e w9 ⟨v141,rfl,ho0,hb⟩;refine ⟨_,rfl,?_⟩;have HO142:=Aside0.mk (Kd.R_lower ho0 (below_size bl));replace BK137:=Aside0.mk (blk_below (bk BK137) hb);replace BK138:=Aside0.mk (blk_below (bk BK138) hb);replace BK139:=Aside0.mk (blk_below (bk BK139) hb);replace HB:=Aside0.mk (below_step bl hb);(try clear hb);(try clear hb2);(try clear hk);(try clear hi);(try clear ho0);obtain ⟨Ao10,co10,eo10⟩:=Kd.R_slice HO142.out;subst eo10;have hnb11:=NB139_138.out;have hnc11:=NB138_139.out;obtain ⟨hcz12_0,hcz12_1,hfz12_0,hfz12_1⟩:=ck2 BK139.out;obtain ⟨hcz13_0,hcz13_1,hfz13_0,hfz13_1⟩:=ck2 BK137.out;obtain ⟨hcz14_0,hcz14_1,hfz14_0,hfz14_1⟩:=ck2 BK138.out))
 refine bodyPost_ret (results_cell_row rfl _ _ gb138 44 #[.slice Ao10 t140.length co10,.int .i64 a0_1] (0,0) _ rfl (by (with_reducible repeat (first|refine blk_drewN ?_ _|refine blk_drew ?_|refine blk_alloc ?_ _));refine blk_put (cs:=#[.slice Ao10 t140.length co10,.int .i64 0]) ?_ 1 _ rfl;(with_reducible repeat (first|refine blk_drewN ?_ _|refine blk_drew ?_|refine blk_alloc ?_ _));refine blk_put (cs:=#[.slice none 0 0,.int .i64 0]) ?_ 0 _ rfl;(with_reducible repeat (first|refine blk_drewN ?_ _|refine blk_drew ?_|refine blk_alloc ?_ _));refine blk_far ?_ NB138_139.out _;(with_reducible repeat (first|refine blk_drewN ?_ _|refine blk_drew ?_|refine blk_alloc ?_ _));refine blk_far ?_ NB138_139.out _;(with_reducible repeat (first|refine blk_drewN ?_ _|refine blk_drew ?_|refine blk_alloc ?_ _));exact BK138.out) Try.underlying44 rfl (by kernel_rfl)) rfl ?_
 exact ⟨_,er,by (with_reducible repeat (first|apply Kd.R_alloc|apply Kd.R_drewN|apply Kd.R_drew));exact Kd.R_mono (Kd.R_far (p:=⟨gb138,1,none⟩) (Kd.R_far (p:=⟨gb138,0,none⟩) (Kd.R_far (p:=⟨gb139,1,none⟩) (Kd.R_far (p:=⟨gb139,0,none⟩) (Kd.R_types (Kd.R_types HO142.out BK139.out (by decide)) BK138.out (by decide)) (fun _ hk=>hk.1.2) (.slice Ao10 t140.length co10)) (fun _ hk=>hk.1.2) (.int .i64 a0_1)) (fun _ hk=>hk.2) (.slice Ao10 t140.length co10)) (fun _ hk=>hk.2) (.int .i64 a0_1)) (fun _ hk=>trivial),bl⟩

/-! ### laws_toLine: function 21 -/
def laws_toLine.f (k:Nat) (l0_0:List (S100)) (a0_1:Int) (a0_2:Int) (a0_3:Int) (a0_4:Int) (l0_5:List (S120)) (a0_6:Int):Option ((List (S97)) × Int × Int × Int × Int × (List (S86)) × Int):=(laws_toQueue.f k l0_0 a0_1 a0_2 a0_3 a0_4).bind fun bt146=>((laws_toHeap.f k l0_5 a0_6).bind fun bt153=>(some (bt146.1,bt146.2.1,bt146.2.2.1,bt146.2.2.2.1,bt146.2.2.2.2,bt153.1,bt153.2)))
theorem laws_toLine.mono:∀ a0 a1 a2 a3 a4 a5 a6 k,LeO (laws_toLine.f k a0 a1 a2 a3 a4 a5 a6) (laws_toLine.f (k + 1) a0 a1 a2 a3 a4 a5 a6):=by
 intro a0 a1 a2 a3 a4 a5 a6 k
 unfold laws_toLine.f
 repeat' first
   | (with_reducible exact laws_toHeap.mono _ _ _)
   | (with_reducible exact laws_toQueue.mono _ _ _ _ _ _)
   | (with_reducible exact LeO.refl _)
   | (with_reducible exact LeO.none _)
   | (with_reducible refine LeO.ite ?_ ?_)
   | (with_reducible refine LeO.bind ?_ (fun _=>?_))
   | exact laws_toHeap.mono _ _ _
   | exact laws_toQueue.mono _ _ _ _ _ _
   | exact LeO.none _
   | refine LeO.ite ?_ ?_
   | refine LeO.bind ?_ (fun _=>?_)
set_option maxHeartbeats 8000000 in
set_option maxRecDepth 100000 in
theorem laws_toLine.calls (k:Nat) (A0_0:Option Addr) (c0_0:Nat) (l0_0:List (S100)) (a0_1:Int) (a0_2:Int) (a0_3:Int) (a0_4:Int) (A0_5:Option Addr) (c0_5:Nat) (l0_5:List (S120)) (a0_6:Int) (r1:List (S97)) (r2:Int) (r3:Int) (r4:Int) (r5:Int) (r6:List (S86)) (r7:Int) (w:World) (hr0_0:Kd.C k100 w A0_0 l0_0.length l0_0) (hc0_0:l0_0.length≤c0_0) (hr0_5:Kd.C k120 w A0_5 l0_5.length l0_5) (hc0_5:l0_5.length≤c0_5) (h:laws_toLine.f k l0_0 a0_1 a0_2 a0_3 a0_4 l0_5 a0_6=some (r1,r2,r3,r4,r5,r6,r7)) :
  Calls Try.prog 21 #[.agg #[.slice A0_0 l0_0.length c0_0,.int .i64 a0_1,.int .i64 a0_2,.int .i64 a0_3,.int .i64 a0_4,.slice A0_5 l0_5.length c0_5,.int .i64 a0_6]] w fun e w'=>∃ v0_ v5_:Value,e = .returned (.agg #[v0_,.int .i64 r2,.int .i64 r3,.int .i64 r4,.int .i64 r5,v5_,.int .i64 r7])∧Kd.R k97 97 w' w.heap.size (fun _=>True) v0_ r1∧Kd.R k86 86 w' w.heap.size (fun _=>True) v5_ r6∧Below w.heap.size w w':=by
 have hu39:=Try.underlying39
 have hu46:=Try.underlying46
 have hu24:=Try.underlying24
 have hu28:=Try.underlying28
 have hu37:=Try.underlying37
 have hu44:=Try.underlying44
 have HR0_0:=Aside0.mk hr0_0
 have HC0_0:=Aside0.mk hc0_0
 clear hr0_0 hc0_0
 have HR0_5:=Aside0.mk hr0_5
 have HC0_5:=Aside0.mk hc0_5
 clear hr0_5 hc0_5
 have HB:=Aside0.mk (Below.refl w.heap.size w)
 have H:((laws_toQueue.f k l0_0 a0_1 a0_2 a0_3 a0_4).bind fun bt146=>((laws_toHeap.f k l0_5 a0_6).bind fun bt153=>(some (bt146.1,bt146.2.1,bt146.2.2.1,bt146.2.2.2.1,bt146.2.2.2.2,bt153.1,bt153.2))))=some (r1,r2,r3,r4,r5,r6,r7):=h
 clear h
 replace H:=Option.bind_eq_some_iff.mp H
 obtain ⟨⟨t146,t149,t150,t151,t152⟩,A20,H⟩:=H
 replace H:((laws_toHeap.f k l0_5 a0_6).bind fun bt153=>(some (t146,t149,t150,t151,t152,bt153.1,bt153.2)))=some (r1,r2,r3,r4,r5,r6,r7):=H
 have A2:=Aside0.mk A20
 clear A20
 replace H:=Option.bind_eq_some_iff.mp H
 obtain ⟨⟨t153,t156⟩,A30,H⟩:=H
 replace H:(some (t146,t149,t150,t151,t152,t153,t156))=some (r1,r2,r3,r4,r5,r6,r7):=H
 have A3:=Aside0.mk A30
 clear A30
 simp only [Option.some.injEq,Prod.mk.injEq] at H
 obtain ⟨rfl,rfl,rfl,rfl,rfl,rfl,rfl⟩:=H
 go_enter Try.func21,Try.ntmps21
 go_wp2_with (first|((with_reducible refine gate_dst (N:=1) rfl ?_);refine bx 1 #[.slice A0_0 l0_0.length c0_0,.int .i64 a0_1,.int .i64 a0_2,.int .i64 a0_3,.int .i64 a0_4,.slice A0_5 l0_5.length c0_5,.int .i64 a0_6] 39 ?_;intro gb143 hg w4 hbox hb;have BK143:=Aside0.mk (hbox);have GW143:=Aside0.mk (bz hg:w.heap.size≤gb143);have GE143:=GW143;replace HB:=Aside0.mk (below_step bl hb);clear hb hbox hg)|((with_reducible refine gate_dst (N:=2) rfl ?_);refine bx 2 #[.slice none 0 0,.int .i64 0,.int .i64 0,.int .i64 0,.int .i64 0,.slice none 0 0,.int .i64 0] 46 ?_;intro gb144 hg w5 hbox hb;have BK144:=Aside0.mk (hbox);have GW144:=Aside0.mk (bz hg:w.heap.size≤gb144);have GE144:=GW144;replace HB:=Aside0.mk (below_step bl hb);have NB143_144:=Aside0.mk (nl hg BK143:gb143≠gb144);have NB144_143:=Aside0.mk (nr hg BK143:gb144≠gb143);replace BK143:=Aside0.mk (blk_below (bk BK143) hb);clear hb hbox hg)|((with_reducible refine gate_dst (N:=3) rfl ?_);refine bx 3 #[.slice none 0 0,.int .i64 0,.int .i64 0,.int .i64 0,.int .i64 0,.slice none 0 0,.int .i64 0] 46 ?_;intro gb145 hg w6 hbox hb;have BK145:=Aside0.mk (hbox);have GW145:=Aside0.mk (bz hg:w.heap.size≤gb145);have GE145:=GW145;replace HB:=Aside0.mk (below_step bl hb);have NB143_145:=Aside0.mk (nl hg BK143:gb143≠gb145);have NB145_143:=Aside0.mk (nr hg BK143:gb145≠gb143);replace BK143:=Aside0.mk (blk_below (bk BK143) hb);have NB144_145:=Aside0.mk (nl hg BK144:gb144≠gb145);have NB145_144:=Aside0.mk (nr hg BK144:gb145≠gb144);replace BK144:=Aside0.mk (blk_below (bk BK144) hb);clear hb hbox hg;have hnb7:=NB143_144.out;have hnc7:=NB144_143.out;have hnb8:=NB143_145.out;have hnc8:=NB145_143.out;obtain ⟨hcz9_0,hcz9_1,hcz9_2,hcz9_3,hcz9_4,hcz9_5,hcz9_6,hfz9_0,hfz9_1,hfz9_2,hfz9_3,hfz9_4,hfz9_5,hfz9_6⟩:=ck7 BK143.out)|((with_reducible refine gate_callee (f:=14) rfl ?_);refine gl (some 6) Try.func14 #[.agg #[.slice A0_0 l0_0.length c0_0,.int .i64 a0_1,.int .i64 a0_2,.int .i64 a0_3,.int .i64 a0_4]] ?_;(with_reducible refine (laws_toQueue.calls k _ _ l0_0 a0_1 a0_2 a0_3 a0_4 t146 t149 t150 t151 t152 _ ?side1 ?side2 A2.out).mono ?_);(case side1=>exact kc HR0_0);(case side2=>exact HC0_0.out);rintro e w10 ⟨v147,rfl,ho0,hb⟩;refine ⟨_,rfl,?_⟩;have HO148:=Aside0.mk (Kd.R_lower ho0 (below_size bl));replace BK143:=Aside0.mk (blk_below (bk BK143) hb);replace BK144:=Aside0.mk (blk_below (bk BK144) hb);replace BK145:=Aside0.mk (blk_below (bk BK145) hb);replace HB:=Aside0.mk (below_step bl hb);(try clear hb);(try clear hb2);(try clear hk);(try clear hi);(try clear ho0);obtain ⟨Ao11,co11,eo11⟩:=Kd.R_slice HO148.out;subst eo11;have hnb12:=NB145_144.out;have hnc12:=NB144_145.out;obtain ⟨hcz13_0,hcz13_1,hcz13_2,hcz13_3,hcz13_4,hcz13_5,hcz13_6,hfz13_0,hfz13_1,hfz13_2,hfz13_3,hfz13_4,hfz13_5,hfz13_6⟩:=ck7 BK145.out;obtain ⟨hcz14_0,hcz14_1,hcz14_2,hcz14_3,hcz14_4,hcz14_5,hcz14_6,hfz14_0,hfz14_1,hfz14_2,hfz14_3,hfz14_4,hfz14_5,hfz14_6⟩:=ck7 BK143.out)|((with_reducible refine gate_callee (f:=64) rfl ?_);refine gl (some 10) Try.func64 #[.agg #[.slice A0_5 l0_5.length c0_5,.int .i64 a0_6]] ?_;(with_reducible refine (laws_toHeap.calls k _ _ l0_5 a0_6 t153 t156 _ ?side1 ?side2 A3.out).mono ?_);(case side1=>exact Kd.C_below HR0_5.out bl);(case side2=>exact HC0_5.out);rintro e w15 ⟨v154,rfl,ho0,hb⟩;refine ⟨_,rfl,?_⟩;replace HO148:=Aside0.mk (Kd.R_below (by (with_reducible repeat (first|apply Kd.R_alloc|apply Kd.R_drewN|apply Kd.R_drew));exact (Kd.R_mono (Kd.R_far (p:=⟨gb145,4,none⟩) (Kd.R_far (p:=⟨gb145,3,none⟩) (Kd.R_far (p:=⟨gb145,2,none⟩) (Kd.R_far (p:=⟨gb145,1,none⟩) (Kd.R_far (p:=⟨gb145,0,none⟩) (Kd.R_types HO148.out BK145.out (by decide)) (fun _ hk=>hk.2) (.slice Ao11 t146.length co11)) (fun _ hk=>hk.2) (.int .i64 t149)) (fun _ hk=>hk.2) (.int .i64 t150)) (fun _ hk=>hk.2) (.int .i64 t151)) (fun _ hk=>hk.2) (.int .i64 t152)) (fun _ h_=>h_.1))) hb);have HO155:=Aside0.mk (Kd.R_lower ho0 (below_size bl));replace BK143:=Aside0.mk (blk_below (g:=gb143) (o:=.cells #[.slice A0_0 l0_0.length c0_0,.int .i64 a0_1,.int .i64 a0_2,.int .i64 a0_3,.int .i64 a0_4,.slice A0_5 l0_5.length c0_5,.int .i64 a0_6] 39 (0,0)) (bf BK143) hb);replace BK144:=Aside0.mk (blk_below (g:=gb144) (o:=.cells #[.slice none 0 0,.int .i64 0,.int .i64 0,.int .i64 0,.int .i64 0,.slice none 0 0,.int .i64 0] 46 (0,0)) (bf BK144) hb);replace BK145:=Aside0.mk (blk_below (g:=gb145) (o:=.cells #[.slice Ao11 t146.length co11,.int .i64 t149,.int .i64 t150,.int .i64 t151,.int .i64 t152,.slice none 0 0,.int .i64 0] 46 (0,0)) (by (with_reducible repeat (first|refine blk_drewN ?_ _|refine blk_drew ?_|refine blk_alloc ?_ _));refine blk_put (cs:=#[.slice Ao11 t146.length co11,.int .i64 t149,.int .i64 t150,.int .i64 t151,.int .i64 0,.slice none 0 0,.int .i64 0]) ?_ 4 _ rfl;(with_reducible repeat (first|refine blk_drewN ?_ _|refine blk_drew ?_|refine blk_alloc ?_ _));refine blk_put (cs:=#[.slice Ao11 t146.length co11,.int .i64 t149,.int .i64 t150,.int .i64 0,.int .i64 0,.slice none 0 0,.int .i64 0]) ?_ 3 _ rfl;(with_reducible repeat (first|refine blk_drewN ?_ _|refine blk_drew ?_|refine blk_alloc ?_ _));refine blk_put (cs:=#[.slice Ao11 t146.length co11,.int .i64 t149,.int .i64 0,.int .i64 0,.int .i64 0,.slice none 0 0,.int .i64 0]) ?_ 2 _ rfl;(with_reducible repeat (first|refine blk_drewN ?_ _|refine blk_drew ?_|refine blk_alloc ?_ _));refine blk_put (cs:=#[.slice Ao11 t146.length co11,.int .i64 0,.int .i64 0,.int .i64 0,.int .i64 0,.slice none 0 0,.int .i64 0]) ?_ 1 _ rfl;(with_reducible repeat (first|refine blk_drewN ?_ _|refine blk_drew ?_|refine blk_alloc ?_ _));refine blk_put (cs:=#[.slice none 0 0,.int .i64 0,.int .i64 0,.int .i64 0,.int .i64 0,.slice none 0 0,.int .i64 0]) ?_ 0 _ rfl;(with_reducible repeat (first|refine blk_drewN ?_ _|refine blk_drew ?_|refine blk_alloc ?_ _));exact BK145.out) hb);replace HB:=Aside0.mk (below_step bl hb);(try clear hb);(try clear hb2);(try clear hk);(try clear hi);(try clear ho0);obtain ⟨Ao16,co16,eo16⟩:=Kd.R_slice HO155.out;subst eo16;obtain ⟨hcz17_0,hcz17_1,hcz17_2,hcz17_3,hcz17_4,hcz17_5,hcz17_6,hfz17_0,hfz17_1,hfz17_2,hfz17_3,hfz17_4,hfz17_5,hfz17_6⟩:=ck7 BK145.out;obtain ⟨hcz18_0,hcz18_1,hcz18_2,hcz18_3,hcz18_4,hcz18_5,hcz18_6,hfz18_0,hfz18_1,hfz18_2,hfz18_3,hfz18_4,hfz18_5,hfz18_6⟩:=ck7 BK144.out))
 refine bodyPost_ret (results_cell_row rfl _ _ gb144 46 #[.slice Ao11 t146.length co11,.int .i64 t149,.int .i64 t150,.int .i64 t151,.int .i64 t152,.slice Ao16 t153.length co16,.int .i64 t156] (0,0) _ rfl (by (with_reducible repeat (first|refine blk_drewN ?_ _|refine blk_drew ?_|refine blk_alloc ?_ _));refine blk_put (cs:=#[.slice Ao11 t146.length co11,.int .i64 t149,.int .i64 t150,.int .i64 t151,.int .i64 t152,.slice Ao16 t153.length co16,.int .i64 0]) ?_ 6 _ rfl;(with_reducible repeat (first|refine blk_drewN ?_ _|refine blk_drew ?_|refine blk_alloc ?_ _));refine blk_put (cs:=#[.slice Ao11 t146.length co11,.int .i64 t149,.int .i64 t150,.int .i64 t151,.int .i64 t152,.slice none 0 0,.int .i64 0]) ?_ 5 _ rfl;(with_reducible repeat (first|refine blk_drewN ?_ _|refine blk_drew ?_|refine blk_alloc ?_ _));refine blk_put (cs:=#[.slice Ao11 t146.length co11,.int .i64 t149,.int .i64 t150,.int .i64 t151,.int .i64 0,.slice none 0 0,.int .i64 0]) ?_ 4 _ rfl;(with_reducible repeat (first|refine blk_drewN ?_ _|refine blk_drew ?_|refine blk_alloc ?_ _));refine blk_put (cs:=#[.slice Ao11 t146.length co11,.int .i64 t149,.int .i64 t150,.int .i64 0,.int .i64 0,.slice none 0 0,.int .i64 0]) ?_ 3 _ rfl;(with_reducible repeat (first|refine blk_drewN ?_ _|refine blk_drew ?_|refine blk_alloc ?_ _));refine blk_put (cs:=#[.slice Ao11 t146.length co11,.int .i64 t149,.int .i64 0,.int .i64 0,.int .i64 0,.slice none 0 0,.int .i64 0]) ?_ 2 _ rfl;(with_reducible repeat (first|refine blk_drewN ?_ _|refine blk_drew ?_|refine blk_alloc ?_ _));refine blk_put (cs:=#[.slice Ao11 t146.length co11,.int .i64 0,.int .i64 0,.int .i64 0,.int .i64 0,.slice none 0 0,.int .i64 0]) ?_ 1 _ rfl;(with_reducible repeat (first|refine blk_drewN ?_ _|refine blk_drew ?_|refine blk_alloc ?_ _));refine blk_put (cs:=#[.slice none 0 0,.int .i64 0,.int .i64 0,.int .i64 0,.int .i64 0,.slice none 0 0,.int .i64 0]) ?_ 0 _ rfl;(with_reducible repeat (first|refine blk_drewN ?_ _|refine blk_drew ?_|refine blk_alloc ?_ _));refine blk_far ?_ NB144_145.out _;(with_reducible repeat (first|refine blk_drewN ?_ _|refine blk_drew ?_|refine blk_alloc ?_ _));refine blk_far ?_ NB144_145.out _;(with_reducible repeat (first|refine blk_drewN ?_ _|refine blk_drew ?_|refine blk_alloc ?_ _));exact BK144.out) Try.underlying46 rfl (by kernel_rfl)) rfl ?_
 exact ⟨_,_,er,by (with_reducible repeat (first|apply Kd.R_alloc|apply Kd.R_drewN|apply Kd.R_drew));exact Kd.R_mono (Kd.R_far (p:=⟨gb144,6,none⟩) (Kd.R_far (p:=⟨gb144,5,none⟩) (Kd.R_far (p:=⟨gb144,4,none⟩) (Kd.R_far (p:=⟨gb144,3,none⟩) (Kd.R_far (p:=⟨gb144,2,none⟩) (Kd.R_far (p:=⟨gb144,1,none⟩) (Kd.R_far (p:=⟨gb144,0,none⟩) (Kd.R_far (p:=⟨gb145,6,none⟩) (Kd.R_far (p:=⟨gb145,5,none⟩) (Kd.R_types (Kd.R_types HO148.out BK145.out (by decide)) BK144.out (by decide)) (fun _ hk=>hk.1.2) (.slice Ao16 t153.length co16)) (fun _ hk=>hk.1.2) (.int .i64 t156)) (fun _ hk=>hk.2) (.slice Ao11 t146.length co11)) (fun _ hk=>hk.2) (.int .i64 t149)) (fun _ hk=>hk.2) (.int .i64 t150)) (fun _ hk=>hk.2) (.int .i64 t151)) (fun _ hk=>hk.2) (.int .i64 t152)) (fun _ hk=>hk.2) (.slice Ao16 t153.length co16)) (fun _ hk=>hk.2) (.int .i64 t156)) (fun _ hk=>trivial),by (with_reducible repeat (first|apply Kd.R_alloc|apply Kd.R_drewN|apply Kd.R_drew));exact Kd.R_mono (Kd.R_far (p:=⟨gb144,6,none⟩) (Kd.R_far (p:=⟨gb144,5,none⟩) (Kd.R_far (p:=⟨gb144,4,none⟩) (Kd.R_far (p:=⟨gb144,3,none⟩) (Kd.R_far (p:=⟨gb144,2,none⟩) (Kd.R_far (p:=⟨gb144,1,none⟩) (Kd.R_far (p:=⟨gb144,0,none⟩) (Kd.R_far (p:=⟨gb145,6,none⟩) (Kd.R_far (p:=⟨gb145,5,none⟩) (Kd.R_types (Kd.R_types HO155.out BK145.out (by decide)) BK144.out (by decide)) (fun _ hk=>hk.1.2) (.slice Ao16 t153.length co16)) (fun _ hk=>hk.1.2) (.int .i64 t156)) (fun _ hk=>hk.2) (.slice Ao11 t146.length co11)) (fun _ hk=>hk.2) (.int .i64 t149)) (fun _ hk=>hk.2) (.int .i64 t150)) (fun _ hk=>hk.2) (.int .i64 t151)) (fun _ hk=>hk.2) (.int .i64 t152)) (fun _ hk=>hk.2) (.slice Ao16 t153.length co16)) (fun _ hk=>hk.2) (.int .i64 t156)) (fun _ hk=>trivial),bl⟩

/-! ### laws_eqSlot: function 90 -/
def laws_eqSlot.f (a0_0:Int) (a0_1:Int) (a0_2:Int) (a0_3:Bool) (a1_0:Int) (a1_1:Int) (a1_2:Int) (a1_3:Bool):Option (Bool):=if a0_0=a1_0 then (if a0_1=a1_1 then (if a0_2=a1_2 then (if (a0_3 != a1_3)=true then (none) else (some true)) else (none)) else (none)) else (none)
set_option maxHeartbeats 8000000 in
set_option maxRecDepth 100000 in
theorem laws_eqSlot.calls (a0_0:Int) (a0_1:Int) (a0_2:Int) (a0_3:Bool) (a1_0:Int) (a1_1:Int) (a1_2:Int) (a1_3:Bool) (r:Bool) (w:World) (h:laws_eqSlot.f a0_0 a0_1 a0_2 a0_3 a1_0 a1_1 a1_2 a1_3=some r) :
  Calls Try.prog 90 #[.agg #[.int .i64 a0_0,.int .i64 a0_1,.int .i64 a0_2,.bool a0_3],.agg #[.int .i64 a1_0,.int .i64 a1_1,.int .i64 a1_2,.bool a1_3]] w fun e w'=>e = .returned (.bool r)∧Below w.heap.size w w':=by
 have hu97:=Try.underlying97
 have HB:=Aside0.mk (Below.refl w.heap.size w)
 have H:(if a0_0=a1_0 then (if a0_1=a1_1 then (if a0_2=a1_2 then (if (a0_3 != a1_3)=true then (none) else (some true)) else (none)) else (none)) else (none))=some r:=h
 clear h
 by_cases c3:a0_0=a1_0
 ·rw [if_pos c3] at H
  have c3b0:(a0_0 == a1_0)=true:=beq_iff_eq.mpr c3
  have c3b1:(a0_0 != a1_0)=false:=bne_eq_false_iff_eq.mpr c3
  clear c3
  by_cases c4:a0_1=a1_1
  case neg =>
   rw [if_neg c4] at H
   exact absurd H (by simp)
  rw [if_pos c4] at H
  have c4b0:(a0_1 == a1_1)=true:=beq_iff_eq.mpr c4
  have c4b1:(a0_1 != a1_1)=false:=bne_eq_false_iff_eq.mpr c4
  clear c4
  by_cases c5:a0_2=a1_2
  case neg =>
   rw [if_neg c5] at H
   exact absurd H (by simp)
  rw [if_pos c5] at H
  have c5b0:(a0_2 == a1_2)=true:=beq_iff_eq.mpr c5
  have c5b1:(a0_2 != a1_2)=false:=bne_eq_false_iff_eq.mpr c5
  clear c5
  by_cases c6:(a0_3 != a1_3)=true
  ·rw [if_pos c6] at H
   exact absurd H (by simp)
  ·rw [if_neg c6] at H
   have c6b0:(a0_3 != a1_3)=false:=by simpa using c6
   (try (have c6b1:decide (a0_3=a1_3)=true:=by simpa using c6))
   (try (have c6b2:(a0_3 == a1_3)=true:=by simpa using c6))
   clear c6
   obtain rfl:=Option.some.inj H
   go_enter Try.func90,Try.ntmps90
   go_wp2_with (first|((with_reducible refine gate_dst (N:=2) rfl ?_);refine bx 2 #[.int .i64 a0_0,.int .i64 a0_1,.int .i64 a0_2,.bool a0_3] 97 ?_;intro gb157 hg w7 hbox hb;have BK157:=Aside0.mk (hbox);have GW157:=Aside0.mk (bz hg:w.heap.size≤gb157);have GE157:=GW157;replace HB:=Aside0.mk (below_step bl hb);clear hb hbox hg)|((with_reducible refine gate_dst (N:=3) rfl ?_);refine bx 3 #[.int .i64 a1_0,.int .i64 a1_1,.int .i64 a1_2,.bool a1_3] 97 ?_;intro gb158 hg w8 hbox hb;have BK158:=Aside0.mk (hbox);have GW158:=Aside0.mk (bz hg:w.heap.size≤gb158);have GE158:=GW158;replace HB:=Aside0.mk (below_step bl hb);have NB157_158:=Aside0.mk (nl hg BK157:gb157≠gb158);have NB158_157:=Aside0.mk (nr hg BK157:gb158≠gb157);replace BK157:=Aside0.mk (blk_below (bk BK157) hb);clear hb hbox hg;have hnb9:=NB157_158.out;have hnc9:=NB158_157.out;obtain ⟨hcz10_0,hcz10_1,hcz10_2,hcz10_3,hfz10_0,hfz10_1,hfz10_2,hfz10_3⟩:=ck4 BK157.out;obtain ⟨hcz11_0,hcz11_1,hcz11_2,hcz11_3,hfz11_0,hfz11_1,hfz11_2,hfz11_3⟩:=ck4 BK158.out))
   go_ret
   exact ⟨er,bl⟩
 ·rw [if_neg c3] at H
  exact absurd H (by simp)

end Go.Proofs.Ytnkpjpfmjkiidaa.PFnExactNextExpiry
