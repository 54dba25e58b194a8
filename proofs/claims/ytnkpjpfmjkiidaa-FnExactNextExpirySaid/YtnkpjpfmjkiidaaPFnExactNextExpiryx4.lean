/- Contracts of functions of the given program: what each call answers. Written by a program of this session, out of the text of the functions. -/
import Derived.Test.YtnkpjpfmjkiidaaPFnExactNextExpiryx0
import Derived.Test.YtnkpjpfmjkiidaaPFnExactNextExpiryx2
import Derived.Test.YtnkpjpfmjkiidaaZFnExactNextExpiry
namespace Go.Proofs.Ytnkpjpfmjkiidaa.PFnExactNextExpiry
open Go.RowKit Go.Proofs.YtnkpjpfmjkiidaaW.PrintWords Go.Proofs.YtnkpjpfmjkiidaaW.PrintLast Go.Proofs.YtnkpjpfmjkiidaaW.PrintMore Go.Proofs.Ytnkpjpfmjkiidaa.Giv Go.Proofs.Ytnkpjpfmjkiidaa.Prs
attribute [local go_sem] max2_int min2_int max_two min_two max_three min_three max_four min_four   -- for this text's walks alone
set_option linter.unusedVariables false
set_option linter.unusedSimpArgs false

/-! ### spec_TickOk: function 93 -/
def spec_TickOk.f (a0:Int):Option (Bool):=(spec_l01In.f a0 0 1000000000).bind fun t203=>(some t203)
set_option maxHeartbeats 8000000 in
set_option maxRecDepth 100000 in
theorem spec_TickOk.calls (a0:Int) (r:Bool) (w:World) (h:spec_TickOk.f a0=some r) :
  Calls Try.prog 93 #[.int .i64 a0] w fun e w'=>e = .returned (.bool r)∧Drawn0 w w':=by
 have H:((spec_l01In.f a0 0 1000000000).bind fun t203=>(some t203))=some r:=h
 clear h
 replace H:=Option.bind_eq_some_iff.mp H
 obtain ⟨t203,A20,H⟩:=H
 have A2:=Aside0.mk A20
 clear A20
 obtain rfl:=Option.some.inj H
 go_enter Try.func93,Try.ntmps93
 go_wp2_with (first|((with_reducible refine gate_callee (f:=83) rfl ?_);refine gl (some 4) Try.func83 #[.int .i64 a0,.int .i64 0,.int .i64 1000000000] ?_;(with_reducible refine (spec_l01In.calls a0 0 1000000000 t203 _ A2.out).mono ?_);rintro e w' ⟨rfl,⟨nd,rfl⟩⟩;refine ⟨_,rfl,?_⟩))
 go_ret
 exact ⟨by first|rfl|(simp;done)|(simp [*];done),by repeat (first|exact Drawn0.refl _|apply Drawn0.step)⟩

/-! ### spec_l03Before: function 94 -/
def spec_l03Before.f (a0_0:Int) (a0_1:Int) (a0_2:Int) (a1_0:Int) (a1_1:Int) (a1_2:Int):Option (Bool):=if a0_0 < a1_0 then (some true) else (if a0_0=a1_0 then (some (decide (a0_1 < a1_1))) else (some false))
set_option maxHeartbeats 8000000 in
set_option maxRecDepth 100000 in
theorem spec_l03Before.calls (a0_0:Int) (a0_1:Int) (a0_2:Int) (a1_0:Int) (a1_1:Int) (a1_2:Int) (r:Bool) (w:World) (h:spec_l03Before.f a0_0 a0_1 a0_2 a1_0 a1_1 a1_2=some r) :
  Calls Try.prog 94 #[.agg #[.int .i64 a0_0,.int .i64 a0_1,.int .i64 a0_2],.agg #[.int .i64 a1_0,.int .i64 a1_1,.int .i64 a1_2]] w fun e w'=>e = .returned (.bool r)∧Below w.heap.size w w':=by
 have hu86:=Try.underlying86
 have HB:=Aside0.mk (Below.refl w.heap.size w)
 have H:(if a0_0 < a1_0 then (some true) else (if a0_0=a1_0 then (some (decide (a0_1 < a1_1))) else (some false)))=some r:=h
 clear h
 by_cases c3:a0_0 < a1_0
 ·rw [if_pos c3] at H
  have c3b0:decide (a0_0 < a1_0)=true:=decide_eq_true c3
  clear c3
  obtain rfl:=Option.some.inj H
  go_enter Try.func94,Try.ntmps94
  go_wp2_with (first|((with_reducible refine gate_dst (N:=2) rfl ?_);refine bx 2 #[.int .i64 a0_0,.int .i64 a0_1,.int .i64 a0_2] 86 ?_;intro gb204 hg w4 hbox hb;have BK204:=Aside0.mk (hbox);have GW204:=Aside0.mk (bz hg:w.heap.size≤gb204);have GE204:=GW204;replace HB:=Aside0.mk (below_step bl hb);clear hb hbox hg)|((with_reducible refine gate_dst (N:=3) rfl ?_);refine bx 3 #[.int .i64 a1_0,.int .i64 a1_1,.int .i64 a1_2] 86 ?_;intro gb205 hg w5 hbox hb;have BK205:=Aside0.mk (hbox);have GW205:=Aside0.mk (bz hg:w.heap.size≤gb205);have GE205:=GW205;replace HB:=Aside0.mk (below_step bl hb);have NB204_205:=Aside0.mk (nl hg BK204:gb204≠gb205);have NB205_204:=Aside0.mk (nr hg BK204:gb205≠gb204);replace BK204:=Aside0.mk (blk_below (bk BK204) hb);clear hb hbox hg;have hnb6:=NB204_205.out;have hnc6:=NB205_204.out;obtain ⟨hcz7_0,hcz7_1,hcz7_2,hfz7_0,hfz7_1,hfz7_2⟩:=ck3 BK204.out;obtain ⟨hcz8_0,hcz8_1,hcz8_2,hfz8_0,hfz8_1,hfz8_2⟩:=ck3 BK205.out))
  go_ret
  exact ⟨er,bl⟩
 ·rw [if_neg c3] at H
  have c3b0:decide (a0_0 < a1_0)=false:=decide_eq_false c3
  clear c3
  by_cases c9:a0_0=a1_0
  ·rw [if_pos c9] at H
   have c9b0:(a0_0 == a1_0)=true:=beq_iff_eq.mpr c9
   have c9b1:(a0_0 != a1_0)=false:=bne_eq_false_iff_eq.mpr c9
   clear c9
   obtain rfl:=Option.some.inj H
   go_enter Try.func94,Try.ntmps94
   go_wp2_with (first|((with_reducible refine gate_dst (N:=2) rfl ?_);refine bx 2 #[.int .i64 a0_0,.int .i64 a0_1,.int .i64 a0_2] 86 ?_;intro gb204 hg w10 hbox hb;have BK204:=Aside0.mk (hbox);have GW204:=Aside0.mk (bz hg:w.heap.size≤gb204);have GE204:=GW204;replace HB:=Aside0.mk (below_step bl hb);clear hb hbox hg)|((with_reducible refine gate_dst (N:=3) rfl ?_);refine bx 3 #[.int .i64 a1_0,.int .i64 a1_1,.int .i64 a1_2] 86 ?_;intro gb205 hg w11 hbox hb;have BK205:=Aside0.mk (hbox);have GW205:=Aside0.mk (bz hg:w.heap.size≤gb205);have GE205:=GW205;replace HB:=Aside0.mk (below_step bl hb);have NB204_205:=Aside0.mk (nl hg BK204:gb204≠gb205);have NB205_204:=Aside0.mk (nr hg BK204:gb205≠gb204);replace BK204:=Aside0.mk (blk_below (bk BK204) hb);clear hb hbox hg;have hnb12:=NB204_205.out;have hnc12:=NB205_204.out;obtain ⟨hcz13_0,hcz13_1,hcz13_2,hfz13_0,hfz13_1,hfz13_2⟩:=ck3 BK204.out;obtain ⟨hcz14_0,hcz14_1,hcz14_2,hfz14_0,hfz14_1,hfz14_2⟩:=ck3 BK205.out))
   go_ret
   exact ⟨er,bl⟩
  ·rw [if_neg c9] at H
   have c9b0:(a0_0 == a1_0)=false:=beq_eq_false_iff_ne.mpr c9
   have c9b1:(a0_0 != a1_0)=true:=bne_iff_ne.mpr c9
   obtain rfl:=Option.some.inj H
   go_enter Try.func94,Try.ntmps94
   go_wp2_with (first|((with_reducible refine gate_dst (N:=2) rfl ?_);refine bx 2 #[.int .i64 a0_0,.int .i64 a0_1,.int .i64 a0_2] 86 ?_;intro gb204 hg w15 hbox hb;have BK204:=Aside0.mk (hbox);have GW204:=Aside0.mk (bz hg:w.heap.size≤gb204);have GE204:=GW204;replace HB:=Aside0.mk (below_step bl hb);clear hb hbox hg)|((with_reducible refine gate_dst (N:=3) rfl ?_);refine bx 3 #[.int .i64 a1_0,.int .i64 a1_1,.int .i64 a1_2] 86 ?_;intro gb205 hg w16 hbox hb;have BK205:=Aside0.mk (hbox);have GW205:=Aside0.mk (bz hg:w.heap.size≤gb205);have GE205:=GW205;replace HB:=Aside0.mk (below_step bl hb);have NB204_205:=Aside0.mk (nl hg BK204:gb204≠gb205);have NB205_204:=Aside0.mk (nr hg BK204:gb205≠gb204);replace BK204:=Aside0.mk (blk_below (bk BK204) hb);clear hb hbox hg;have hnb17:=NB204_205.out;have hnc17:=NB205_204.out;obtain ⟨hcz18_0,hcz18_1,hcz18_2,hfz18_0,hfz18_1,hfz18_2⟩:=ck3 BK204.out;obtain ⟨hcz19_0,hcz19_1,hcz19_2,hfz19_0,hfz19_1,hfz19_2⟩:=ck3 BK205.out))
   go_ret
   exact ⟨er,bl⟩

end Go.Proofs.Ytnkpjpfmjkiidaa.PFnExactNextExpiry
