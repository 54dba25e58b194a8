/- Contracts of functions of the given program: what each call answers. Written by a program of this session, out of the text of the functions. -/
import Derived.Test.YtdffkcbaijbhoaaPFnExactSchedulex0
import Derived.Test.YtdffkcbaijbhoaaPFnExactSchedulex2
import Derived.Test.YtdffkcbaijbhoaaPFnExactSchedulex3
import Derived.Test.YtdffkcbaijbhoaaPFnExactSchedulex4
import Derived.Test.YtdffkcbaijbhoaaPFnExactSchedulex5
import Derived.Test.YtdffkcbaijbhoaaPFnExactSchedulex6
import Derived.Test.YtdffkcbaijbhoaaPrs
namespace Go.Proofs.Ytdffkcbaijbhoaa.PFnExactSchedule
open Go.RowKit Go.Proofs.YtdffkcbaijbhoaaW.PrintWords Go.Proofs.YtdffkcbaijbhoaaW.PrintLast Go.Proofs.YtdffkcbaijbhoaaW.PrintMore Go.Proofs.Ytdffkcbaijbhoaa.Giv Go.Proofs.Ytdffkcbaijbhoaa.Prs
attribute [local go_sem] max2_int min2_int max_two min_two max_three min_three max_four min_four   -- for this text's walks alone
set_option linter.unusedVariables false
set_option linter.unusedSimpArgs false

/-! ### spec_CancelDue: function 10 -/
def spec_CancelDue.f (k:Nat) (l0_0:List (S56)) (a0_1:Int) (a1:Int):Option ((List (S56)) × Int × Bool):=(spec_l03Copy.f k l0_0 a0_1).bind fun bt191=>((spec_HeapOk.f k l0_0 a0_1).bind fun t196=>(if t196=true then ((spec_l03Find.f k l0_0 a0_1 a1).bind fun t197=>(if t197 < 0 then (some (bt191.1,bt191.2,false)) else (if 0≤(wrap64 ((bt191.1.length:Int) - 1)) then (if (wrap64 ((bt191.1.length:Int) - 1)) < (bt191.1.length:Int) then (if 0≤t197 then (if t197 < (bt191.1.length:Int) then (if (wrap64 ((bt191.1.length:Int) - 1))≤(bt191.1.length:Int) then ((some ((bt191.1.set (t197:Int).toNat (⟨(rd_T56 bt191.1 (wrap64 ((bt191.1.length:Int) - 1))).f0,(rd_T56 bt191.1 (wrap64 ((bt191.1.length:Int) - 1))).f1,(rd_T56 bt191.1 (wrap64 ((bt191.1.length:Int) - 1))).f2⟩:S56)).take ((wrap64 ((bt191.1.length:Int) - 1)):Int).toNat:List (S56))).bind fun y200=>(if t197 < (wrap64 ((bt191.1.length:Int) - 1)) then ((spec_l03Up.f k y200 t197).bind fun t203=>((spec_l03Down.f k t203 t197).bind fun t204=>(some (t204,bt191.2,true)))) else (some (y200,bt191.2,true)))) else (none)) else (none)) else (none)) else (none)) else (none)))) else (some (bt191.1,bt191.2,false))))
theorem spec_CancelDue.mono:∀ a0 a1 a2 k,LeO (spec_CancelDue.f k a0 a1 a2) (spec_CancelDue.f (k + 1) a0 a1 a2):=by
 intro a0 a1 a2 k
 unfold spec_CancelDue.f
 repeat' first
   | (with_reducible exact spec_HeapOk.mono _ _ _)
   | (with_reducible exact spec_l03Copy.mono _ _ _)
   | (with_reducible exact spec_l03Down.mono _ _ _)
   | (with_reducible exact spec_l03Find.mono _ _ _ _)
   | (with_reducible exact spec_l03Up.mono _ _ _)
   | (with_reducible exact LeO.refl _)
   | (with_reducible exact LeO.none _)
   | (with_reducible refine LeO.ite ?_ ?_)
   | (with_reducible refine LeO.bind ?_ (fun _=>?_))
   | exact spec_HeapOk.mono _ _ _
   | exact spec_l03Copy.mono _ _ _
   | exact spec_l03Down.mono _ _ _
   | exact spec_l03Find.mono _ _ _ _
   | exact spec_l03Up.mono _ _ _
   | exact LeO.none _
   | refine LeO.ite ?_ ?_
   | refine LeO.bind ?_ (fun _=>?_)
def spec_CancelDue.T8:Bool × List (List Nat × List Nat):=(true,[([],[]),([0],[0]),([],[]),([],[]),([3],[3]),([],[]),([4,5],[4,5]),([6],[6]),([1,2,0,1,2,3,4,5,6,7],[1,2]),([8,7,0,1,2,3,4,5,6,7],[7,8])])
def spec_CancelDue.B8:List Nat:=[0,1,0,0,8,0,56,120,255,511]
theorem spec_CancelDue.tab8:rtab .any (opsOf Try.f10 8)=spec_CancelDue.T8:=by kernel_rfl
theorem spec_CancelDue.bits8:waitsOk spec_CancelDue.T8.2 spec_CancelDue.B8=true:=by kernel_rfl
set_option maxHeartbeats 8000000 in
set_option maxRecDepth 100000 in
theorem spec_CancelDue.calls (k:Nat) (A0_0:Option Addr) (c0_0:Nat) (l0_0:List (S56)) (a0_1:Int) (a1:Int) (r1:List (S56)) (r2:Int) (r3:Bool) (w:World) (hr0_0:Kd.C k56 w A0_0 l0_0.length l0_0) (hc0_0:l0_0.length≤c0_0) (h:spec_CancelDue.f k l0_0 a0_1 a1=some (r1,r2,r3)) :
  Calls Try.prog 10 #[.agg #[.slice A0_0 l0_0.length c0_0,.int .i64 a0_1],.int .i64 a1] w fun e w'=>∃ v0_:Value,e = .returned (.tuple #[.agg #[v0_,.int .i64 r2],.bool r3])∧Kd.R k56 56 w' w.heap.size (fun _=>True) v0_ r1∧Below w.heap.size w w':=by
 have hu28:=Try.underlying28
 have hu56:=Try.underlying56
 have HR0_0:=Aside0.mk hr0_0
 have HC0_0:=Aside0.mk hc0_0
 clear hr0_0 hc0_0
 have HB:=Aside0.mk (Below.refl w.heap.size w)
 have H:((spec_l03Copy.f k l0_0 a0_1).bind fun bt191=>((spec_HeapOk.f k l0_0 a0_1).bind fun t196=>(if t196=true then ((spec_l03Find.f k l0_0 a0_1 a1).bind fun t197=>(if t197 < 0 then (some (bt191.1,bt191.2,false)) else (if 0≤(wrap64 ((bt191.1.length:Int) - 1)) then (if (wrap64 ((bt191.1.length:Int) - 1)) < (bt191.1.length:Int) then (if 0≤t197 then (if t197 < (bt191.1.length:Int) then (if (wrap64 ((bt191.1.length:Int) - 1))≤(bt191.1.length:Int) then ((some ((bt191.1.set (t197:Int).toNat (⟨(rd_T56 bt191.1 (wrap64 ((bt191.1.length:Int) - 1))).f0,(rd_T56 bt191.1 (wrap64 ((bt191.1.length:Int) - 1))).f1,(rd_T56 bt191.1 (wrap64 ((bt191.1.length:Int) - 1))).f2⟩:S56)).take ((wrap64 ((bt191.1.length:Int) - 1)):Int).toNat:List (S56))).bind fun y200=>(if t197 < (wrap64 ((bt191.1.length:Int) - 1)) then ((spec_l03Up.f k y200 t197).bind fun t203=>((spec_l03Down.f k t203 t197).bind fun t204=>(some (t204,bt191.2,true)))) else (some (y200,bt191.2,true)))) else (none)) else (none)) else (none)) else (none)) else (none)))) else (some (bt191.1,bt191.2,false)))))=some (r1,r2,r3):=h
 clear h
 replace H:=Option.bind_eq_some_iff.mp H
 obtain ⟨⟨t191,t194⟩,A30,H⟩:=H
 replace H:((spec_HeapOk.f k l0_0 a0_1).bind fun t196=>(if t196=true then ((spec_l03Find.f k l0_0 a0_1 a1).bind fun t197=>(if t197 < 0 then (some (t191,t194,false)) else (if 0≤(wrap64 ((t191.length:Int) - 1)) then (if (wrap64 ((t191.length:Int) - 1)) < (t191.length:Int) then (if 0≤t197 then (if t197 < (t191.length:Int) then (if (wrap64 ((t191.length:Int) - 1))≤(t191.length:Int) then ((some ((t191.set (t197:Int).toNat (⟨(rd_T56 t191 (wrap64 ((t191.length:Int) - 1))).f0,(rd_T56 t191 (wrap64 ((t191.length:Int) - 1))).f1,(rd_T56 t191 (wrap64 ((t191.length:Int) - 1))).f2⟩:S56)).take ((wrap64 ((t191.length:Int) - 1)):Int).toNat:List (S56))).bind fun y200=>(if t197 < (wrap64 ((t191.length:Int) - 1)) then ((spec_l03Up.f k y200 t197).bind fun t203=>((spec_l03Down.f k t203 t197).bind fun t204=>(some (t204,t194,true)))) else (some (y200,t194,true)))) else (none)) else (none)) else (none)) else (none)) else (none)))) else (some (t191,t194,false))))=some (r1,r2,r3):=H
 have A3:=Aside0.mk A30
 clear A30
 replace H:=Option.bind_eq_some_iff.mp H
 obtain ⟨t196,A40,H⟩:=H
 have A4:=Aside0.mk A40
 clear A40
 by_cases c5:t196=true
 ·subst c5
  rw [if_pos rfl] at H
  replace H:=Option.bind_eq_some_iff.mp H
  obtain ⟨t197,A60,H⟩:=H
  have A6:=Aside0.mk A60
  clear A60
  by_cases c7:t197 < 0
  ·rw [if_pos c7] at H
   have c7b0:decide (t197 < 0)=true:=decide_eq_true c7
   clear c7
   simp only [Option.some.injEq,Prod.mk.injEq] at H
   obtain ⟨rfl,rfl,rfl⟩:=H
   go_enter Try.func10,Try.ntmps10
   go_wp2_with (first|((with_reducible refine gate_dst (N:=2) rfl ?_);refine bx 2 #[.slice A0_0 l0_0.length c0_0,.int .i64 a0_1] 28 ?_;intro gb189 hg w8 hbox hb;have BK189:=Aside0.mk (hbox);have GW189:=Aside0.mk (bz hg:w.heap.size≤gb189);have GE189:=GW189;replace HB:=Aside0.mk (below_step bl hb);clear hb hbox hg)|((with_reducible refine gate_dst (N:=4) rfl ?_);refine bx 4 #[.slice none 0 0,.int .i64 0] 28 ?_;intro gb190 hg w9 hbox hb;have BK190:=Aside0.mk (hbox);have GW190:=Aside0.mk (bz hg:w.heap.size≤gb190);have GE190:=GW190;replace HB:=Aside0.mk (below_step bl hb);have NB189_190:=Aside0.mk (nl hg BK189:gb189≠gb190);have NB190_189:=Aside0.mk (nr hg BK189:gb190≠gb189);replace BK189:=Aside0.mk (blk_below (bk BK189) hb);clear hb hbox hg;have hnb10:=NB189_190.out;have hnc10:=NB190_189.out;obtain ⟨hcz11_0,hcz11_1,hfz11_0,hfz11_1⟩:=ck2 BK189.out)|((with_reducible refine gate_callee (f:=39) rfl ?_);refine gl (some 10) Try.func39 #[.agg #[.slice A0_0 l0_0.length c0_0,.int .i64 a0_1]] ?_;(with_reducible refine (spec_l03Copy.calls k _ _ l0_0 a0_1 t191 t194 _ ?side1 ?side2 A3.out).mono ?_);(case side1=>exact kc HR0_0);(case side2=>exact HC0_0.out);rintro e w12 ⟨v192,rfl,ho0,hb⟩;refine ⟨_,rfl,?_⟩;have HO193:=Aside0.mk (Kd.R_lower ho0 (below_size bl));replace BK189:=Aside0.mk (blk_below (bk BK189) hb);replace BK190:=Aside0.mk (blk_below (bk BK190) hb);replace HB:=Aside0.mk (below_step bl hb);(try clear hb);(try clear hb2);(try clear hk);(try clear hi);(try clear ho0))|((with_reducible refine gate_dst (N:=6) rfl ?_);refine bx 6 #[.slice none 0 0,.int .i64 0] 28 ?_;intro gb195 hg w13 hbox hb;replace HO193:=Aside0.mk (Kd.R_below (kr HO193) hb);have BK195:=Aside0.mk (hbox);have GW195:=Aside0.mk (bz hg:w.heap.size≤gb195);have GE195:=GW195;replace HB:=Aside0.mk (below_step bl hb);have NB189_195:=Aside0.mk (nl hg BK189:gb189≠gb195);have NB195_189:=Aside0.mk (nr hg BK189:gb195≠gb189);replace BK189:=Aside0.mk (blk_below (bk BK189) hb);have NB190_195:=Aside0.mk (nl hg BK190:gb190≠gb195);have NB195_190:=Aside0.mk (nr hg BK190:gb195≠gb190);replace BK190:=Aside0.mk (blk_below (bk BK190) hb);clear hb hbox hg;obtain ⟨Ao14,co14,eo14⟩:=Kd.R_slice HO193.out;subst eo14;have hnb15:=NB195_189.out;have hnc15:=NB189_195.out;have hnb16:=NB195_190.out;have hnc16:=NB190_195.out;obtain ⟨hcz17_0,hcz17_1,hfz17_0,hfz17_1⟩:=ck2 BK195.out;obtain ⟨hcz18_0,hcz18_1,hfz18_0,hfz18_1⟩:=ck2 BK189.out)|((with_reducible refine gate_callee (f:=34) rfl ?_);refine gl (some 12) Try.func34 #[.agg #[.slice A0_0 l0_0.length c0_0,.int .i64 a0_1]] ?_;(with_reducible refine (spec_HeapOk.calls k _ _ l0_0 a0_1 true _ ?side1 ?side2 A4.out).mono ?_);(case side1=>exact Kd.C_below HR0_0.out bl);(case side2=>exact HC0_0.out);rintro e w19 ⟨rfl,hb⟩;refine ⟨_,rfl,?_⟩;replace HO193:=Aside0.mk (Kd.R_below (by (with_reducible repeat (first|apply Kd.R_alloc|apply Kd.R_drewN|apply Kd.R_drew));exact (Kd.R_mono (Kd.R_far (p:=⟨gb195,1,none⟩) (Kd.R_far (p:=⟨gb195,0,none⟩) (Kd.R_types HO193.out BK195.out (by decide)) (fun _ hk=>hk.2) (.slice Ao14 t191.length co14)) (fun _ hk=>hk.2) (.int .i64 t194)) (fun _ h_=>h_.1))) hb);replace BK189:=Aside0.mk (blk_below (g:=gb189) (o:=.cells #[.slice A0_0 l0_0.length c0_0,.int .i64 a0_1] 28 (0,0)) (bf BK189) hb);replace BK190:=Aside0.mk (blk_below (g:=gb190) (o:=.cells #[.slice none 0 0,.int .i64 0] 28 (0,0)) (bf BK190) hb);replace BK195:=Aside0.mk (blk_below (g:=gb195) (o:=.cells #[.slice Ao14 t191.length co14,.int .i64 t194] 28 (0,0)) (by (with_reducible repeat (first|refine blk_drewN ?_ _|refine blk_drew ?_|refine blk_alloc ?_ _));refine blk_put (cs:=#[.slice Ao14 t191.length co14,.int .i64 0]) ?_ 1 _ rfl;(with_reducible repeat (first|refine blk_drewN ?_ _|refine blk_drew ?_|refine blk_alloc ?_ _));refine blk_put (cs:=#[.slice none 0 0,.int .i64 0]) ?_ 0 _ rfl;(with_reducible repeat (first|refine blk_drewN ?_ _|refine blk_drew ?_|refine blk_alloc ?_ _));exact BK195.out) hb);replace HB:=Aside0.mk (below_step bl hb);(try clear hb);(try clear hb2);(try clear hk);(try clear hi);obtain ⟨hcz20_0,hcz20_1,hfz20_0,hfz20_1⟩:=ck2 BK189.out)|((with_reducible refine gate_callee (f:=40) rfl ?_);refine gl (some 17) Try.func40 #[.agg #[.slice A0_0 l0_0.length c0_0,.int .i64 a0_1],.int .i64 a1] ?_;(with_reducible refine (spec_l03Find.calls k _ _ l0_0 a0_1 a1 t197 _ ?side1 ?side2 A6.out).mono ?_);(case side1=>exact kc HR0_0);(case side2=>exact HC0_0.out);rintro e w21 ⟨rfl,hb⟩;refine ⟨_,rfl,?_⟩;replace HO193:=Aside0.mk (Kd.R_below (kr HO193) hb);replace BK189:=Aside0.mk (blk_below (bk BK189) hb);replace BK190:=Aside0.mk (blk_below (bk BK190) hb);replace BK195:=Aside0.mk (blk_below (bk BK195) hb);replace HB:=Aside0.mk (below_step bl hb);(try clear hb);(try clear hb2);(try clear hk);(try clear hi);obtain ⟨hcz22_0,hcz22_1,hfz22_0,hfz22_1⟩:=ck2 BK195.out;obtain ⟨hcz23_0,hcz23_1,hfz23_0,hfz23_1⟩:=ck2 BK190.out))
   refine bodyPost_ret (results_ct rfl _ _ gb190 28 #[.slice Ao14 t191.length co14,.int .i64 t194] (0,0) _ rfl (by (with_reducible repeat (first|refine blk_drewN ?_ _|refine blk_drew ?_|refine blk_alloc ?_ _));refine blk_put (cs:=#[.slice Ao14 t191.length co14,.int .i64 0]) ?_ 1 _ rfl;(with_reducible repeat (first|refine blk_drewN ?_ _|refine blk_drew ?_|refine blk_alloc ?_ _));refine blk_put (cs:=#[.slice none 0 0,.int .i64 0]) ?_ 0 _ rfl;(with_reducible repeat (first|refine blk_drewN ?_ _|refine blk_drew ?_|refine blk_alloc ?_ _));exact BK190.out) Try.underlying28 rfl (by kernel_rfl)) rfl ?_
   exact ⟨_,er,by (with_reducible repeat (first|apply Kd.R_alloc|apply Kd.R_drewN|apply Kd.R_drew));exact Kd.R_mono (Kd.R_far (p:=⟨gb190,1,none⟩) (Kd.R_far (p:=⟨gb190,0,none⟩) (Kd.R_types HO193.out BK190.out (by decide)) (fun _ hk=>hk.2) (.slice Ao14 t191.length co14)) (fun _ hk=>hk.2) (.int .i64 t194)) (fun _ hk=>trivial),bl⟩
  ·rw [if_neg c7] at H
   have c7b0:decide (t197 < 0)=false:=decide_eq_false c7
   clear c7
   obtain ⟨ji24,hji24⟩:∃ j_:Int,(wrap64 ((t191.length:Int) - 1))=j_:=⟨_,rfl⟩
   first|rw [hji24] at H|simp only [hji24] at H
   (try rw [hji24] at A3)
   (try rw [hji24] at A4)
   (try rw [hji24] at A6)
   have hji24w:(IntKind.i64.wrap ((t191.length:Int) - 1))=ji24:=(i64_w _).trans hji24
   by_cases c25:0≤(ji24)
   case neg =>
    rw [if_neg c25] at H
    exact absurd H (by simp)
   rw [if_pos c25] at H
   have c25b0:decide (0≤(ji24))=true:=decide_eq_true c25
   clear c25
   by_cases c26:(ji24) < (t191.length:Int)
   case neg =>
    rw [if_neg c26] at H
    exact absurd H (by simp)
   rw [if_pos c26] at H
   have c26b0:decide ((ji24) < (t191.length:Int))=true:=decide_eq_true c26
   clear c26
   by_cases c27:0≤t197
   case neg =>
    rw [if_neg c27] at H
    exact absurd H (by simp)
   rw [if_pos c27] at H
   have c27b0:decide (0≤t197)=true:=decide_eq_true c27
   clear c27
   by_cases c28:t197 < (t191.length:Int)
   case neg =>
    rw [if_neg c28] at H
    exact absurd H (by simp)
   rw [if_pos c28] at H
   have c28b0:decide (t197 < (t191.length:Int))=true:=decide_eq_true c28
   clear c28
   obtain ⟨y199,hy199⟩:∃ y_:List (S56),y_=(t191.set (t197:Int).toNat (⟨(rd_T56 t191 (ji24)).f0,(rd_T56 t191 (ji24)).f1,(rd_T56 t191 (ji24)).f2⟩:S56)):=⟨_,rfl⟩
   replace H:(if (ji24)≤(t191.length:Int) then ((some (y199.take ((ji24):Int).toNat:List (S56))).bind fun y200=>(if t197 < (ji24) then ((spec_l03Up.f k y200 t197).bind fun t203=>((spec_l03Down.f k t203 t197).bind fun t204=>(some (t204,t194,true)))) else (some (y200,t194,true)))) else (none))=some (r1,r2,r3):=by first|(rw [hy199];with_reducible exact H)|(have H2_:=(Option.bind_some _ _).symm.trans H;rw [hy199];with_reducible exact H2_)|(have H2_:=(Option.bind_some _ _).symm.trans H;with_reducible exact H2_)|with_reducible exact H|(rw [hy199];exact H)|exact H
   have Ny199:=Aside0.mk hy199
   clear hy199
   by_cases c30:(ji24)≤(t191.length:Int)
   case neg =>
    rw [if_neg c30] at H
    exact absurd H (by simp)
   rw [if_pos c30] at H
   have c30b0:=eq_true c30
   have c30b1:decide ((ji24)≤(t191.length:Int))=true:=decide_eq_true c30
   clear c30
   obtain ⟨y200,hy200⟩:∃ y_:List (S56),y_=(y199.take ((ji24):Int).toNat):=⟨_,rfl⟩
   replace H:(if t197 < (ji24) then ((spec_l03Up.f k y200 t197).bind fun t203=>((spec_l03Down.f k t203 t197).bind fun t204=>(some (t204,t194,true)))) else (some (y200,t194,true)))=some (r1,r2,r3):=by first|(rw [hy200];with_reducible exact H)|(have H2_:=(Option.bind_some _ _).symm.trans H;rw [hy200];with_reducible exact H2_)|(have H2_:=(Option.bind_some _ _).symm.trans H;with_reducible exact H2_)|with_reducible exact H|(rw [hy200];exact H)|exact H
   have Ny200:=Aside0.mk hy200
   clear hy200
   by_cases c31:t197 < (ji24)
   ·rw [if_pos c31] at H
    have c31b0:decide (t197 < (ji24))=true:=decide_eq_true c31
    clear c31
    replace H:=Option.bind_eq_some_iff.mp H
    obtain ⟨t203,A320,H⟩:=H
    have A32:=Aside0.mk A320
    clear A320
    replace H:=Option.bind_eq_some_iff.mp H
    obtain ⟨t204,A330,H⟩:=H
    have A33:=Aside0.mk A330
    clear A330
    simp only [Option.some.injEq,Prod.mk.injEq] at H
    obtain ⟨rfl,rfl,rfl⟩:=H
    go_enter Try.func10,Try.ntmps10
    try go_wp2_with (first|((with_reducible refine gate_dst (N:=2) rfl ?_);refine bx 2 #[.slice A0_0 l0_0.length c0_0,.int .i64 a0_1] 28 ?_;intro gb189 hg w34 hbox hb;have BK189:=Aside0.mk (hbox);have GW189:=Aside0.mk (bz hg:w.heap.size≤gb189);have GE189:=GW189;replace HB:=Aside0.mk (below_step bl hb);clear hb hbox hg)|((with_reducible refine gate_dst (N:=4) rfl ?_);refine bx 4 #[.slice none 0 0,.int .i64 0] 28 ?_;intro gb190 hg w35 hbox hb;have BK190:=Aside0.mk (hbox);have GW190:=Aside0.mk (bz hg:w.heap.size≤gb190);have GE190:=GW190;replace HB:=Aside0.mk (below_step bl hb);have NB189_190:=Aside0.mk (nl hg BK189:gb189≠gb190);have NB190_189:=Aside0.mk (nr hg BK189:gb190≠gb189);replace BK189:=Aside0.mk (blk_below (bk BK189) hb);clear hb hbox hg;have hnb36:=NB189_190.out;have hnc36:=NB190_189.out;obtain ⟨hcz37_0,hcz37_1,hfz37_0,hfz37_1⟩:=ck2 BK189.out)|((with_reducible refine gate_callee (f:=39) rfl ?_);refine gl (some 10) Try.func39 #[.agg #[.slice A0_0 l0_0.length c0_0,.int .i64 a0_1]] ?_;(with_reducible refine (spec_l03Copy.calls k _ _ l0_0 a0_1 t191 t194 _ ?side1 ?side2 A3.out).mono ?_);(case side1=>exact kc HR0_0);(case side2=>exact HC0_0.out);rintro e w38 ⟨v192,rfl,ho0,hb⟩;refine ⟨_,rfl,?_⟩;have HO193:=Aside0.mk (Kd.R_lower ho0 (below_size bl));replace BK189:=Aside0.mk (blk_below (bk BK189) hb);replace BK190:=Aside0.mk (blk_below (bk BK190) hb);replace HB:=Aside0.mk (below_step bl hb);(try clear hb);(try clear hb2);(try clear hk);(try clear hi);(try clear ho0))|((with_reducible refine gate_dst (N:=6) rfl ?_);refine bx 6 #[.slice none 0 0,.int .i64 0] 28 ?_;intro gb195 hg w39 hbox hb;replace HO193:=Aside0.mk (Kd.R_below (kr HO193) hb);have BK195:=Aside0.mk (hbox);have GW195:=Aside0.mk (bz hg:w.heap.size≤gb195);have GE195:=GW195;replace HB:=Aside0.mk (below_step bl hb);have NB189_195:=Aside0.mk (nl hg BK189:gb189≠gb195);have NB195_189:=Aside0.mk (nr hg BK189:gb195≠gb189);replace BK189:=Aside0.mk (blk_below (bk BK189) hb);have NB190_195:=Aside0.mk (nl hg BK190:gb190≠gb195);have NB195_190:=Aside0.mk (nr hg BK190:gb195≠gb190);replace BK190:=Aside0.mk (blk_below (bk BK190) hb);clear hb hbox hg;obtain ⟨Ao40,co40,eo40⟩:=Kd.R_slice HO193.out;subst eo40;have hnb41:=NB195_189.out;have hnc41:=NB189_195.out;have hnb42:=NB195_190.out;have hnc42:=NB190_195.out;obtain ⟨hcz43_0,hcz43_1,hfz43_0,hfz43_1⟩:=ck2 BK195.out;obtain ⟨hcz44_0,hcz44_1,hfz44_0,hfz44_1⟩:=ck2 BK189.out)|((with_reducible refine gate_callee (f:=34) rfl ?_);refine gl (some 12) Try.func34 #[.agg #[.slice A0_0 l0_0.length c0_0,.int .i64 a0_1]] ?_;(with_reducible refine (spec_HeapOk.calls k _ _ l0_0 a0_1 true _ ?side1 ?side2 A4.out).mono ?_);(case side1=>exact Kd.C_below HR0_0.out bl);(case side2=>exact HC0_0.out);rintro e w45 ⟨rfl,hb⟩;refine ⟨_,rfl,?_⟩;replace HO193:=Aside0.mk (Kd.R_below (by (with_reducible repeat (first|apply Kd.R_alloc|apply Kd.R_drewN|apply Kd.R_drew));exact (Kd.R_mono (Kd.R_far (p:=⟨gb195,1,none⟩) (Kd.R_far (p:=⟨gb195,0,none⟩) (Kd.R_types HO193.out BK195.out (by decide)) (fun _ hk=>hk.2) (.slice Ao40 t191.length co40)) (fun _ hk=>hk.2) (.int .i64 t194)) (fun _ h_=>h_.1))) hb);replace BK189:=Aside0.mk (blk_below (g:=gb189) (o:=.cells #[.slice A0_0 l0_0.length c0_0,.int .i64 a0_1] 28 (0,0)) (bf BK189) hb);replace BK190:=Aside0.mk (blk_below (g:=gb190) (o:=.cells #[.slice none 0 0,.int .i64 0] 28 (0,0)) (bf BK190) hb);replace BK195:=Aside0.mk (blk_below (g:=gb195) (o:=.cells #[.slice Ao40 t191.length co40,.int .i64 t194] 28 (0,0)) (by (with_reducible repeat (first|refine blk_drewN ?_ _|refine blk_drew ?_|refine blk_alloc ?_ _));refine blk_put (cs:=#[.slice Ao40 t191.length co40,.int .i64 0]) ?_ 1 _ rfl;(with_reducible repeat (first|refine blk_drewN ?_ _|refine blk_drew ?_|refine blk_alloc ?_ _));refine blk_put (cs:=#[.slice none 0 0,.int .i64 0]) ?_ 0 _ rfl;(with_reducible repeat (first|refine blk_drewN ?_ _|refine blk_drew ?_|refine blk_alloc ?_ _));exact BK195.out) hb);replace HB:=Aside0.mk (below_step bl hb);(try clear hb);(try clear hb2);(try clear hk);(try clear hi);obtain ⟨hcz46_0,hcz46_1,hfz46_0,hfz46_1⟩:=ck2 BK189.out)|((with_reducible refine gate_callee (f:=40) rfl ?_);refine gl (some 17) Try.func40 #[.agg #[.slice A0_0 l0_0.length c0_0,.int .i64 a0_1],.int .i64 a1] ?_;(with_reducible refine (spec_l03Find.calls k _ _ l0_0 a0_1 a1 t197 _ ?side1 ?side2 A6.out).mono ?_);(case side1=>exact kc HR0_0);(case side2=>exact HC0_0.out);rintro e w47 ⟨rfl,hb⟩;refine ⟨_,rfl,?_⟩;replace HO193:=Aside0.mk (Kd.R_below (kr HO193) hb);replace BK189:=Aside0.mk (blk_below (bk BK189) hb);replace BK190:=Aside0.mk (blk_below (bk BK190) hb);replace BK195:=Aside0.mk (blk_below (bk BK195) hb);replace HB:=Aside0.mk (below_step bl hb);(try clear hb);(try clear hb2);(try clear hk);(try clear hi);obtain ⟨hcz48_0,hcz48_1,hfz48_0,hfz48_1⟩:=ck2 BK195.out))
    replace HO193:=Aside0.mk (Kd.R_drew HO193.out)
    replace BK189:=Aside0.mk (blk_drew BK189.out)
    replace BK190:=Aside0.mk (blk_drew BK190.out)
    replace BK195:=Aside0.mk (blk_drew BK195.out)
    replace HB:=Aside0.mk (below_drew1 HB.out)
    have p198:0≤((ji24):Int):=od
    have q198:(ji24) < (t191.length:Int):=od
    obtain ⟨ad198,e198,hx198_0,hx198_1,hx198_2⟩:=at_T56 (Kd.R_reads' HO193.out).2.2 (ji24) p198 q198
    cases e198
    replace p198:=eq_true p198
    replace q198:=eq_true q198
    have p29:0≤(t197:Int):=od
    have q29:(t197:Int) < ((t191.length:Int):Int):=od
    obtain ⟨go29,co29,eo29,gb29,gl29,cl29,HG29⟩:=Kd.R_form HO193.out (by omega)
    (first|cases eo29|(injection eo29 with ea_ en_ ec_;(first|subst ea_|(injection ea_ with ea_;subst ea_));subst ec_;clear en_))
    have GB29:=Aside0.mk gb29
    have GG29:=Aside0.mk HG29
    clear gb29 gl29 HG29
    (first|simp only [add_plain] at hx198_0|skip)
    (first|simp only [add_plain] at hx198_1|skip)
    (first|simp only [add_plain] at hx198_2|skip)
    obtain ⟨ce29,hcl29,hM29,hcc29,hfr29⟩:=Kd.R_elem HO193.out z56 (t197:Int) p29 q29
    obtain rfl:=k56_openM hM29
    have hx29_0:World.cell? _ ⟨go29,(t197:Int).toNat * 3,none⟩=some (.int .i64 ((rd_T56 t191 t197).f0)):=hcc29 0 _ rfl
    have hx29_1:World.cell? _ ⟨go29,(t197:Int).toNat * 3 + 1,none⟩=some (.int .i64 ((rd_T56 t191 t197).f1)):=hcc29 1 _ rfl
    have hx29_2:World.cell? _ ⟨go29,(t197:Int).toNat * 3 + 2,none⟩=some (.int .i64 ((rd_T56 t191 t197).f2)):=hcc29 2 _ rfl
    have hf29_0:World.frozen? _ ⟨go29,(t197:Int).toNat * 3,none⟩=false:=hfr29 0
    have hf29_1:World.frozen? _ ⟨go29,(t197:Int).toNat * 3 + 1,none⟩=false:=hfr29 1
    have hf29_2:World.frozen? _ ⟨go29,(t197:Int).toNat * 3 + 2,none⟩=false:=hfr29 2
    clear hcl29 hcc29 hfr29 hM29
    replace p29:=eq_true p29
    replace q29:=eq_true q29
    obtain ⟨ce50,hcl50,hM50,hcc50,hfr50⟩:=Kd.R_elem HO193.out z56 (t197:Int) od (by have h_:(t197:Int) < ((t191.length:Int):Int):=od;first|exact h_|(have e_:=(Kd.R_reads' HO193.out).1;omega)|simpa using h_)
    obtain rfl:=k56_openM hM50
    have HP50:=(Kd.R_seg HO193.out (t197:Int) od (by have h_:(t197:Int) < ((t191.length:Int):Int):=od;first|exact h_|(have e_:=(Kd.R_reads' HO193.out).1;omega)|simpa using h_) (seg:=[.int .i64 ((rd_T56 t191 (ji24)).f0),.int .i64 ((rd_T56 t191 (ji24)).f1),.int .i64 ((rd_T56 t191 (ji24)).f2)]) (j:=0) hcl50 hcc50 (show 3≤3 from by decide) (x':=(⟨(rd_T56 t191 (ji24)).f0,(rd_T56 t191 (ji24)).f1,(rd_T56 t191 (ji24)).f2⟩:S56)) (k56_mkM _ _ _ (⟨(rd_T56 t191 (ji24)).f0,(rd_T56 t191 (ji24)).f1,(rd_T56 t191 (ji24)).f2⟩:S56) ) (fun _ hk=>hk)).1
    rw [← Ny199.out] at HP50
    have HQ50:=Aside0.mk HP50
    clear hcl50 hcc50 hfr50 hM50 HP50
    refine start_ (n:=10) (S:=fun w'=>w'.cell? ⟨gb195,0,none⟩=some (.slice (some ⟨go29,0,none⟩) t191.length co40)∧w'.cell? ⟨gb195,1,none⟩=some (.int .i64 t194)∧w'.cell? ⟨go29,(((ji24)).toNat * 3),none⟩=some (.int .i64 ((rd_T56 t191 (ji24)).f0))∧w'.cell? ⟨go29,(((ji24)).toNat * 3) + 1,none⟩=some (.int .i64 ((rd_T56 t191 (ji24)).f1))∧w'.cell? ⟨go29,(((ji24)).toNat * 3) + 2,none⟩=some (.int .i64 ((rd_T56 t191 (ji24)).f2))) (ds:=[9]) (bs 10 0) (by kernel_rfl) rfl rfl ⟨bc BK195 0,bc BK195 1,hx198_0,hx198_1,hx198_2⟩ (fun hHeld=>?_);refine with_tabW spec_CancelDue.tab8 spec_CancelDue.bits8 (fun HT_ HW_=>?_)
    generalize w47.drew=w49 at HO193 BK189 BK190 BK195 HB GG29 HQ50 hf29_0 hf29_1 hf29_2 hx198_0 hx198_1 hx198_2 hx29_0 hx29_1 hx29_2 hHeld ⊢
    refine pq 0 25 (bs 10 1) HT_ ?_
    refine pq 2 27 (bs 10 5) HT_ ?_
    refine pq 3 28 (bs 10 13) HT_ ?_
    refine pq 5 30 (bs 10 45) HT_ ?_
    refine tq 1 26 (bs 10 47) HT_ HW_ hHeld ?_
    refine tq 4 29 (bs 10 63) HT_ HW_ hHeld ?_
    refine pq 6 31 (bs 10 127) HT_ ?_
    refine tq 7 32 (bs 10 255) HT_ HW_ hHeld ?_
    refine pq 8 33 (bs 10 511) HT_ ?_
    refine last_ (i:=9) (N:=none) (bs 10 1023) rfl rfl (one_of HT_.out (by kernel_rfl)) (by decide) (fun K hK=>?_)
    refine skip_ (w1:=?_) (by rfl) rfl ?_ ?_
    rotate_left
    ·go_simp
     rfl
    refine hK.out _ _ ?_
    clear hK K
    refine done_ (done_of HT_.out (by kernel_rfl)) ?_
    have n0_:Aside0 (Kd.R k56 56 (((w49.setCell ⟨go29,(t197:Int).toNat * 3,none⟩ (.int .i64 ((rd_T56 t191 (ji24)).f0))).setCell ⟨go29,(t197:Int).toNat * 3 + 1,none⟩ (.int .i64 ((rd_T56 t191 (ji24)).f1))).setCell ⟨go29,(t197:Int).toNat * 3 + 2,none⟩ (.int .i64 ((rd_T56 t191 (ji24)).f2))) w.heap.size (fun _=>True) (.slice (some ⟨go29,0,none⟩) t191.length co40) y199):=⟨kr HQ50⟩
    have n1_:Aside0 ((((w49.setCell ⟨go29,(t197:Int).toNat * 3,none⟩ (.int .i64 ((rd_T56 t191 (ji24)).f0))).setCell ⟨go29,(t197:Int).toNat * 3 + 1,none⟩ (.int .i64 ((rd_T56 t191 (ji24)).f1))).setCell ⟨go29,(t197:Int).toNat * 3 + 2,none⟩ (.int .i64 ((rd_T56 t191 (ji24)).f2))).heap[gb189]? = some (.cells #[.slice A0_0 l0_0.length c0_0,.int .i64 a0_1] 28 (0,0))):=⟨by (with_reducible repeat (first|refine blk_drewN ?_ _|refine blk_drew ?_|refine blk_alloc ?_ _));refine blk_far ?_ (by have h_:=Kd.R_ne HO193.out BK189.out (by decide);intro e_;exact h_ (by rw [e_];rfl)) _;(with_reducible repeat (first|refine blk_drewN ?_ _|refine blk_drew ?_|refine blk_alloc ?_ _));refine blk_far ?_ (by have h_:=Kd.R_ne HO193.out BK189.out (by decide);intro e_;exact h_ (by rw [e_];rfl)) _;(with_reducible repeat (first|refine blk_drewN ?_ _|refine blk_drew ?_|refine blk_alloc ?_ _));refine blk_far ?_ (by have h_:=Kd.R_ne HO193.out BK189.out (by decide);intro e_;exact h_ (by rw [e_];rfl)) _;(with_reducible repeat (first|refine blk_drewN ?_ _|refine blk_drew ?_|refine blk_alloc ?_ _));exact BK189.out⟩
    have n2_:Aside0 ((((w49.setCell ⟨go29,(t197:Int).toNat * 3,none⟩ (.int .i64 ((rd_T56 t191 (ji24)).f0))).setCell ⟨go29,(t197:Int).toNat * 3 + 1,none⟩ (.int .i64 ((rd_T56 t191 (ji24)).f1))).setCell ⟨go29,(t197:Int).toNat * 3 + 2,none⟩ (.int .i64 ((rd_T56 t191 (ji24)).f2))).heap[gb190]? = some (.cells #[.slice none 0 0,.int .i64 0] 28 (0,0))):=⟨by (with_reducible repeat (first|refine blk_drewN ?_ _|refine blk_drew ?_|refine blk_alloc ?_ _));refine blk_far ?_ (by have h_:=Kd.R_ne HO193.out BK190.out (by decide);intro e_;exact h_ (by rw [e_];rfl)) _;(with_reducible repeat (first|refine blk_drewN ?_ _|refine blk_drew ?_|refine blk_alloc ?_ _));refine blk_far ?_ (by have h_:=Kd.R_ne HO193.out BK190.out (by decide);intro e_;exact h_ (by rw [e_];rfl)) _;(with_reducible repeat (first|refine blk_drewN ?_ _|refine blk_drew ?_|refine blk_alloc ?_ _));refine blk_far ?_ (by have h_:=Kd.R_ne HO193.out BK190.out (by decide);intro e_;exact h_ (by rw [e_];rfl)) _;(with_reducible repeat (first|refine blk_drewN ?_ _|refine blk_drew ?_|refine blk_alloc ?_ _));exact BK190.out⟩
    have n3_:Aside0 ((((w49.setCell ⟨go29,(t197:Int).toNat * 3,none⟩ (.int .i64 ((rd_T56 t191 (ji24)).f0))).setCell ⟨go29,(t197:Int).toNat * 3 + 1,none⟩ (.int .i64 ((rd_T56 t191 (ji24)).f1))).setCell ⟨go29,(t197:Int).toNat * 3 + 2,none⟩ (.int .i64 ((rd_T56 t191 (ji24)).f2))).heap[gb195]? = some (.cells #[.slice (some ⟨go29,0,none⟩) t191.length co40,.int .i64 t194] 28 (0,0))):=⟨by (with_reducible repeat (first|refine blk_drewN ?_ _|refine blk_drew ?_|refine blk_alloc ?_ _));refine blk_far ?_ (by have h_:=Kd.R_ne HO193.out BK195.out (by decide);intro e_;exact h_ (by rw [e_];rfl)) _;(with_reducible repeat (first|refine blk_drewN ?_ _|refine blk_drew ?_|refine blk_alloc ?_ _));refine blk_far ?_ (by have h_:=Kd.R_ne HO193.out BK195.out (by decide);intro e_;exact h_ (by rw [e_];rfl)) _;(with_reducible repeat (first|refine blk_drewN ?_ _|refine blk_drew ?_|refine blk_alloc ?_ _));refine blk_far ?_ (by have h_:=Kd.R_ne HO193.out BK195.out (by decide);intro e_;exact h_ (by rw [e_];rfl)) _;(with_reducible repeat (first|refine blk_drewN ?_ _|refine blk_drew ?_|refine blk_alloc ?_ _));exact BK195.out⟩
    have n4_:Aside0 (Below w.heap.size w (((w49.setCell ⟨go29,(t197:Int).toNat * 3,none⟩ (.int .i64 ((rd_T56 t191 (ji24)).f0))).setCell ⟨go29,(t197:Int).toNat * 3 + 1,none⟩ (.int .i64 ((rd_T56 t191 (ji24)).f1))).setCell ⟨go29,(t197:Int).toNat * 3 + 2,none⟩ (.int .i64 ((rd_T56 t191 (ji24)).f2)))):=⟨by repeat (first|(with_reducible first|exact HB.out|apply below_alloc|apply pw_below_drewN|apply below_drew1|refine below_set ?_ GB29.out|refine below_set ?_ GB29.out|refine below_set ?_ GB29.out|refine below_set ?_ GE189.out|refine below_set ?_ GE190.out|refine below_set ?_ GE195.out)|exact HB.out)⟩
    (try clear HO193)
    (try clear BK189)
    (try clear BK190)
    (try clear BK195)
    (try clear HB)
    generalize (((w49.setCell ⟨go29,(t197:Int).toNat * 3,none⟩ (.int .i64 ((rd_T56 t191 (ji24)).f0))).setCell ⟨go29,(t197:Int).toNat * 3 + 1,none⟩ (.int .i64 ((rd_T56 t191 (ji24)).f1))).setCell ⟨go29,(t197:Int).toNat * 3 + 2,none⟩ (.int .i64 ((rd_T56 t191 (ji24)).f2)))=w51 at n0_ n1_ n2_ n3_ n4_ ⊢
    have HO193:=n0_
    have BK189:=n1_
    have BK190:=n2_
    have BK195:=n3_
    have HB:=n4_
    clear n0_ n1_ n2_ n3_ n4_
    obtain ⟨hcz52_0,hcz52_1,hfz52_0,hfz52_1⟩:=ck2 BK195.out
    have q53:((ji24):Int)≤((t191.length:Int):Int):=od
    obtain ⟨i053,hi053,_,hsz53,_⟩:=info_parts info56
    have hcut53:=cut_to (P:=Try.prog) 26 56 .i64 Try.underlying26 hi053 (some ⟨go29,0,none⟩) t191.length co40 (ji24) od q53 (Kd.R_reads' HO193.out).2.1
    have hr53:=Kd.R_take (m:=((ji24):Int).toNat) HO193.out (by first|omega|(have e_:=(Kd.R_reads' HO193.out).1;omega))
    have hy53:y200.length=((ji24):Int).toNat:=(by rw [Ny200.out,List.length_take];first|omega|(have e_:=(Kd.R_reads' HO193.out).1;omega))
    rw [← Ny200.out] at hr53
    rw [← hy53] at hr53 hcut53
    clear hy53 hi053 hsz53 HO193
    have HO202:=Aside0.mk hr53
    clear hr53
    replace q53:=eq_true q53
    try go_wp2_with (first|((with_reducible refine gate_store (t:=26) (p:=38) rfl ?_);refine sx 26 38 (w51.setCell ⟨gb195,0,none⟩ (.slice (some ⟨go29,0,none⟩) y200.length co40)) ?_;intro w54 hw;have n0_:Aside0 (Kd.R k56 56 w54 w.heap.size (fun _=>True) (.slice (some ⟨go29,0,none⟩) y200.length co40) y200):=⟨(by rw [hw];exact (by (with_reducible repeat (first|apply Kd.R_alloc|apply Kd.R_drewN|apply Kd.R_drew));exact Kd.R_mono (Kd.R_far (p:=⟨gb195,0,none⟩) (Kd.R_types HO202.out BK195.out (by decide)) (fun _ hk=>hk.2) (.slice (some ⟨go29,0,none⟩) y200.length co40)) (fun _ hk=>trivial)))⟩;have n1_:Aside0 (w54.heap[gb189]? = some (.cells #[.slice A0_0 l0_0.length c0_0,.int .i64 a0_1] 28 (0,0))):=⟨(by rw [hw];exact (bf BK189))⟩;have n2_:Aside0 (w54.heap[gb190]? = some (.cells #[.slice none 0 0,.int .i64 0] 28 (0,0))):=⟨(by rw [hw];exact (bf BK190))⟩;have n3_:Aside0 (w54.heap[gb195]? = some (.cells #[.slice (some ⟨go29,0,none⟩) y200.length co40,.int .i64 t194] 28 (0,0))):=⟨(by rw [hw];exact (by (with_reducible repeat (first|refine blk_drewN ?_ _|refine blk_drew ?_|refine blk_alloc ?_ _));refine blk_put (cs:=#[.slice (some ⟨go29,0,none⟩) t191.length co40,.int .i64 t194]) ?_ 0 _ rfl;(with_reducible repeat (first|refine blk_drewN ?_ _|refine blk_drew ?_|refine blk_alloc ?_ _));exact BK195.out))⟩;have n4_:Aside0 (Below w.heap.size w w54):=⟨(by rw [hw];exact bl)⟩;clear hw;clear HO202;clear BK189;clear BK190;clear BK195;clear HB;have HO202:=n0_;have BK189:=n1_;have BK190:=n2_;have BK195:=n3_;have HB:=n4_;clear n0_ n1_ n2_ n3_ n4_;obtain ⟨hcz55_0,hcz55_1,hfz55_0,hfz55_1⟩:=ck2 BK195.out)|((with_reducible refine gate_callee (f:=41) rfl ?_);refine gl (some 45) Try.func41 #[.slice (some ⟨go29,0,none⟩) y200.length co40,.int .i64 t197] ?_;(with_reducible refine (spec_l03Up.calls k (fun k_=>some k_=(.slice (some ⟨go29,0,none⟩) y200.length co40:Value).ownBlock) (.slice (some ⟨go29,0,none⟩) y200.length co40) y200 t197 t203 w _ ?side1 ?side2 A32.out).mono ?_);(case side1=>repeat (first|(with_reducible first|exact HB.out|apply below_alloc|apply pw_below_drewN|apply below_drew1|refine below_set ?_ GE189.out|refine below_set ?_ GE190.out|refine below_set ?_ GE195.out)|exact HB.out));(case side2=>exact Kd.R_tight rfl HO202.out);rintro e w56 ⟨rfl,hy0,hb,hkp⟩;refine ⟨_,rfl,?_⟩;replace BK189:=Aside0.mk (blk_kept (bk BK189) hkp (fun hs_=>(fun e_=>(Kd.R_ne HO202.out BK189.out (by decide)) e_) hs_));replace BK190:=Aside0.mk (blk_kept (bk BK190) hkp (fun hs_=>(fun e_=>(Kd.R_ne HO202.out BK190.out (by decide)) e_) hs_));replace BK195:=Aside0.mk (blk_kept (bk BK195) hkp (fun hs_=>(fun e_=>(Kd.R_ne HO202.out BK195.out (by decide)) e_) hs_));replace HO202:=Aside0.mk (Kd.R_reok rfl hy0 (fun k_ e_=>HO202.out.1 k_ e_));replace HB:=Aside0.mk (hb);(try clear hb);(try clear hkp);(try clear hy0);obtain ⟨hcz57_0,hcz57_1,hfz57_0,hfz57_1⟩:=ck2 BK195.out)|((with_reducible refine gate_callee (f:=42) rfl ?_);refine gl (some 49) Try.func42 #[.slice (some ⟨go29,0,none⟩) y200.length co40,.int .i64 t197] ?_;(with_reducible refine (spec_l03Down.calls k (fun k_=>some k_=(.slice (some ⟨go29,0,none⟩) y200.length co40:Value).ownBlock) (.slice (some ⟨go29,0,none⟩) y200.length co40) t203 t197 t204 w _ ?side1 ?side2 A33.out).mono ?_);(case side1=>repeat (first|(with_reducible first|exact HB.out|apply below_alloc|apply pw_below_drewN|apply below_drew1|refine below_set ?_ GE189.out|refine below_set ?_ GE190.out|refine below_set ?_ GE195.out)|exact HB.out));(case side2=>exact Kd.R_tight rfl HO202.out);rintro e w58 ⟨rfl,hy0,hb,hkp⟩;refine ⟨_,rfl,?_⟩;replace BK189:=Aside0.mk (blk_kept (bk BK189) hkp (fun hs_=>(fun e_=>(Kd.R_ne HO202.out BK189.out (by decide)) e_) hs_));replace BK190:=Aside0.mk (blk_kept (bk BK190) hkp (fun hs_=>(fun e_=>(Kd.R_ne HO202.out BK190.out (by decide)) e_) hs_));replace BK195:=Aside0.mk (blk_kept (bk BK195) hkp (fun hs_=>(fun e_=>(Kd.R_ne HO202.out BK195.out (by decide)) e_) hs_));replace HO202:=Aside0.mk (Kd.R_reok rfl hy0 (fun k_ e_=>HO202.out.1 k_ e_));replace HB:=Aside0.mk (hb);(try clear hb);(try clear hkp);(try clear hy0);obtain ⟨hcz59_0,hcz59_1,hfz59_0,hfz59_1⟩:=ck2 BK195.out;obtain ⟨hcz60_0,hcz60_1,hfz60_0,hfz60_1⟩:=ck2 BK190.out))
    refine bodyPost_ret (results_ct rfl _ _ gb190 28 #[.slice (some ⟨go29,0,none⟩) y200.length co40,.int .i64 t194] (0,0) _ rfl (by (with_reducible repeat (first|refine blk_drewN ?_ _|refine blk_drew ?_|refine blk_alloc ?_ _));refine blk_put (cs:=#[.slice (some ⟨go29,0,none⟩) y200.length co40,.int .i64 0]) ?_ 1 _ rfl;(with_reducible repeat (first|refine blk_drewN ?_ _|refine blk_drew ?_|refine blk_alloc ?_ _));refine blk_put (cs:=#[.slice none 0 0,.int .i64 0]) ?_ 0 _ rfl;(with_reducible repeat (first|refine blk_drewN ?_ _|refine blk_drew ?_|refine blk_alloc ?_ _));exact BK190.out) Try.underlying28 rfl (by kernel_rfl)) rfl ?_
    exact ⟨_,by first|rfl|(simp [errW_none,errW_some] <;> rfl)|(simp only [← hji24];first|rfl|(simp [errW_none,errW_some] <;> rfl))|(simp [*,errW_none,errW_some] <;> rfl),by (with_reducible repeat (first|apply Kd.R_alloc|apply Kd.R_drewN|apply Kd.R_drew));exact Kd.R_mono (Kd.R_far (p:=⟨gb190,1,none⟩) (Kd.R_far (p:=⟨gb190,0,none⟩) (Kd.R_types HO202.out BK190.out (by decide)) (fun _ hk=>hk.2) (.slice (some ⟨go29,0,none⟩) y200.length co40)) (fun _ hk=>hk.2) (.int .i64 t194)) (fun _ hk=>trivial),bl⟩
   ·rw [if_neg c31] at H
    have c31b0:decide (t197 < (ji24))=false:=decide_eq_false c31
    clear c31
    simp only [Option.some.injEq,Prod.mk.injEq] at H
    obtain ⟨rfl,rfl,rfl⟩:=H
    go_enter Try.func10,Try.ntmps10
    try go_wp2_with (first|((with_reducible refine gate_dst (N:=2) rfl ?_);refine bx 2 #[.slice A0_0 l0_0.length c0_0,.int .i64 a0_1] 28 ?_;intro gb189 hg w61 hbox hb;have BK189:=Aside0.mk (hbox);have GW189:=Aside0.mk (bz hg:w.heap.size≤gb189);have GE189:=GW189;replace HB:=Aside0.mk (below_step bl hb);clear hb hbox hg)|((with_reducible refine gate_dst (N:=4) rfl ?_);refine bx 4 #[.slice none 0 0,.int .i64 0] 28 ?_;intro gb190 hg w62 hbox hb;have BK190:=Aside0.mk (hbox);have GW190:=Aside0.mk (bz hg:w.heap.size≤gb190);have GE190:=GW190;replace HB:=Aside0.mk (below_step bl hb);have NB189_190:=Aside0.mk (nl hg BK189:gb189≠gb190);have NB190_189:=Aside0.mk (nr hg BK189:gb190≠gb189);replace BK189:=Aside0.mk (blk_below (bk BK189) hb);clear hb hbox hg;have hnb63:=NB189_190.out;have hnc63:=NB190_189.out;obtain ⟨hcz64_0,hcz64_1,hfz64_0,hfz64_1⟩:=ck2 BK189.out)|((with_reducible refine gate_callee (f:=39) rfl ?_);refine gl (some 10) Try.func39 #[.agg #[.slice A0_0 l0_0.length c0_0,.int .i64 a0_1]] ?_;(with_reducible refine (spec_l03Copy.calls k _ _ l0_0 a0_1 t191 t194 _ ?side1 ?side2 A3.out).mono ?_);(case side1=>exact kc HR0_0);(case side2=>exact HC0_0.out);rintro e w65 ⟨v192,rfl,ho0,hb⟩;refine ⟨_,rfl,?_⟩;have HO193:=Aside0.mk (Kd.R_lower ho0 (below_size bl));replace BK189:=Aside0.mk (blk_below (bk BK189) hb);replace BK190:=Aside0.mk (blk_below (bk BK190) hb);replace HB:=Aside0.mk (below_step bl hb);(try clear hb);(try clear hb2);(try clear hk);(try clear hi);(try clear ho0))|((with_reducible refine gate_dst (N:=6) rfl ?_);refine bx 6 #[.slice none 0 0,.int .i64 0] 28 ?_;intro gb195 hg w66 hbox hb;replace HO193:=Aside0.mk (Kd.R_below (kr HO193) hb);have BK195:=Aside0.mk (hbox);have GW195:=Aside0.mk (bz hg:w.heap.size≤gb195);have GE195:=GW195;replace HB:=Aside0.mk (below_step bl hb);have NB189_195:=Aside0.mk (nl hg BK189:gb189≠gb195);have NB195_189:=Aside0.mk (nr hg BK189:gb195≠gb189);replace BK189:=Aside0.mk (blk_below (bk BK189) hb);have NB190_195:=Aside0.mk (nl hg BK190:gb190≠gb195);have NB195_190:=Aside0.mk (nr hg BK190:gb195≠gb190);replace BK190:=Aside0.mk (blk_below (bk BK190) hb);clear hb hbox hg;obtain ⟨Ao67,co67,eo67⟩:=Kd.R_slice HO193.out;subst eo67;have hnb68:=NB195_189.out;have hnc68:=NB189_195.out;have hnb69:=NB195_190.out;have hnc69:=NB190_195.out;obtain ⟨hcz70_0,hcz70_1,hfz70_0,hfz70_1⟩:=ck2 BK195.out;obtain ⟨hcz71_0,hcz71_1,hfz71_0,hfz71_1⟩:=ck2 BK189.out)|((with_reducible refine gate_callee (f:=34) rfl ?_);refine gl (some 12) Try.func34 #[.agg #[.slice A0_0 l0_0.length c0_0,.int .i64 a0_1]] ?_;(with_reducible refine (spec_HeapOk.calls k _ _ l0_0 a0_1 true _ ?side1 ?side2 A4.out).mono ?_);(case side1=>exact Kd.C_below HR0_0.out bl);(case side2=>exact HC0_0.out);rintro e w72 ⟨rfl,hb⟩;refine ⟨_,rfl,?_⟩;replace HO193:=Aside0.mk (Kd.R_below (by (with_reducible repeat (first|apply Kd.R_alloc|apply Kd.R_drewN|apply Kd.R_drew));exact (Kd.R_mono (Kd.R_far (p:=⟨gb195,1,none⟩) (Kd.R_far (p:=⟨gb195,0,none⟩) (Kd.R_types HO193.out BK195.out (by decide)) (fun _ hk=>hk.2) (.slice Ao67 t191.length co67)) (fun _ hk=>hk.2) (.int .i64 t194)) (fun _ h_=>h_.1))) hb);replace BK189:=Aside0.mk (blk_below (g:=gb189) (o:=.cells #[.slice A0_0 l0_0.length c0_0,.int .i64 a0_1] 28 (0,0)) (bf BK189) hb);replace BK190:=Aside0.mk (blk_below (g:=gb190) (o:=.cells #[.slice none 0 0,.int .i64 0] 28 (0,0)) (bf BK190) hb);replace BK195:=Aside0.mk (blk_below (g:=gb195) (o:=.cells #[.slice Ao67 t191.length co67,.int .i64 t194] 28 (0,0)) (by (with_reducible repeat (first|refine blk_drewN ?_ _|refine blk_drew ?_|refine blk_alloc ?_ _));refine blk_put (cs:=#[.slice Ao67 t191.length co67,.int .i64 0]) ?_ 1 _ rfl;(with_reducible repeat (first|refine blk_drewN ?_ _|refine blk_drew ?_|refine blk_alloc ?_ _));refine blk_put (cs:=#[.slice none 0 0,.int .i64 0]) ?_ 0 _ rfl;(with_reducible repeat (first|refine blk_drewN ?_ _|refine blk_drew ?_|refine blk_alloc ?_ _));exact BK195.out) hb);replace HB:=Aside0.mk (below_step bl hb);(try clear hb);(try clear hb2);(try clear hk);(try clear hi);obtain ⟨hcz73_0,hcz73_1,hfz73_0,hfz73_1⟩:=ck2 BK189.out)|((with_reducible refine gate_callee (f:=40) rfl ?_);refine gl (some 17) Try.func40 #[.agg #[.slice A0_0 l0_0.length c0_0,.int .i64 a0_1],.int .i64 a1] ?_;(with_reducible refine (spec_l03Find.calls k _ _ l0_0 a0_1 a1 t197 _ ?side1 ?side2 A6.out).mono ?_);(case side1=>exact kc HR0_0);(case side2=>exact HC0_0.out);rintro e w74 ⟨rfl,hb⟩;refine ⟨_,rfl,?_⟩;replace HO193:=Aside0.mk (Kd.R_below (kr HO193) hb);replace BK189:=Aside0.mk (blk_below (bk BK189) hb);replace BK190:=Aside0.mk (blk_below (bk BK190) hb);replace BK195:=Aside0.mk (blk_below (bk BK195) hb);replace HB:=Aside0.mk (below_step bl hb);(try clear hb);(try clear hb2);(try clear hk);(try clear hi);obtain ⟨hcz75_0,hcz75_1,hfz75_0,hfz75_1⟩:=ck2 BK195.out))
    replace HO193:=Aside0.mk (Kd.R_drew HO193.out)
    replace BK189:=Aside0.mk (blk_drew BK189.out)
    replace BK190:=Aside0.mk (blk_drew BK190.out)
    replace BK195:=Aside0.mk (blk_drew BK195.out)
    replace HB:=Aside0.mk (below_drew1 HB.out)
    have p198:0≤((ji24):Int):=od
    have q198:(ji24) < (t191.length:Int):=od
    obtain ⟨ad198,e198,hx198_0,hx198_1,hx198_2⟩:=at_T56 (Kd.R_reads' HO193.out).2.2 (ji24) p198 q198
    cases e198
    replace p198:=eq_true p198
    replace q198:=eq_true q198
    have p29:0≤(t197:Int):=od
    have q29:(t197:Int) < ((t191.length:Int):Int):=od
    obtain ⟨go29,co29,eo29,gb29,gl29,cl29,HG29⟩:=Kd.R_form HO193.out (by omega)
    (first|cases eo29|(injection eo29 with ea_ en_ ec_;(first|subst ea_|(injection ea_ with ea_;subst ea_));subst ec_;clear en_))
    have GB29:=Aside0.mk gb29
    have GG29:=Aside0.mk HG29
    clear gb29 gl29 HG29
    (first|simp only [add_plain] at hx198_0|skip)
    (first|simp only [add_plain] at hx198_1|skip)
    (first|simp only [add_plain] at hx198_2|skip)
    obtain ⟨ce29,hcl29,hM29,hcc29,hfr29⟩:=Kd.R_elem HO193.out z56 (t197:Int) p29 q29
    obtain rfl:=k56_openM hM29
    have hx29_0:World.cell? _ ⟨go29,(t197:Int).toNat * 3,none⟩=some (.int .i64 ((rd_T56 t191 t197).f0)):=hcc29 0 _ rfl
    have hx29_1:World.cell? _ ⟨go29,(t197:Int).toNat * 3 + 1,none⟩=some (.int .i64 ((rd_T56 t191 t197).f1)):=hcc29 1 _ rfl
    have hx29_2:World.cell? _ ⟨go29,(t197:Int).toNat * 3 + 2,none⟩=some (.int .i64 ((rd_T56 t191 t197).f2)):=hcc29 2 _ rfl
    have hf29_0:World.frozen? _ ⟨go29,(t197:Int).toNat * 3,none⟩=false:=hfr29 0
    have hf29_1:World.frozen? _ ⟨go29,(t197:Int).toNat * 3 + 1,none⟩=false:=hfr29 1
    have hf29_2:World.frozen? _ ⟨go29,(t197:Int).toNat * 3 + 2,none⟩=false:=hfr29 2
    clear hcl29 hcc29 hfr29 hM29
    replace p29:=eq_true p29
    replace q29:=eq_true q29
    obtain ⟨ce77,hcl77,hM77,hcc77,hfr77⟩:=Kd.R_elem HO193.out z56 (t197:Int) od (by have h_:(t197:Int) < ((t191.length:Int):Int):=od;first|exact h_|(have e_:=(Kd.R_reads' HO193.out).1;omega)|simpa using h_)
    obtain rfl:=k56_openM hM77
    have HP77:=(Kd.R_seg HO193.out (t197:Int) od (by have h_:(t197:Int) < ((t191.length:Int):Int):=od;first|exact h_|(have e_:=(Kd.R_reads' HO193.out).1;omega)|simpa using h_) (seg:=[.int .i64 ((rd_T56 t191 (ji24)).f0),.int .i64 ((rd_T56 t191 (ji24)).f1),.int .i64 ((rd_T56 t191 (ji24)).f2)]) (j:=0) hcl77 hcc77 (show 3≤3 from by decide) (x':=(⟨(rd_T56 t191 (ji24)).f0,(rd_T56 t191 (ji24)).f1,(rd_T56 t191 (ji24)).f2⟩:S56)) (k56_mkM _ _ _ (⟨(rd_T56 t191 (ji24)).f0,(rd_T56 t191 (ji24)).f1,(rd_T56 t191 (ji24)).f2⟩:S56) ) (fun _ hk=>hk)).1
    rw [← Ny199.out] at HP77
    have HQ77:=Aside0.mk HP77
    clear hcl77 hcc77 hfr77 hM77 HP77
    refine start_ (n:=10) (S:=fun w'=>w'.cell? ⟨gb195,0,none⟩=some (.slice (some ⟨go29,0,none⟩) t191.length co67)∧w'.cell? ⟨gb195,1,none⟩=some (.int .i64 t194)∧w'.cell? ⟨go29,(((ji24)).toNat * 3),none⟩=some (.int .i64 ((rd_T56 t191 (ji24)).f0))∧w'.cell? ⟨go29,(((ji24)).toNat * 3) + 1,none⟩=some (.int .i64 ((rd_T56 t191 (ji24)).f1))∧w'.cell? ⟨go29,(((ji24)).toNat * 3) + 2,none⟩=some (.int .i64 ((rd_T56 t191 (ji24)).f2))) (ds:=[9]) (bs 10 0) (by kernel_rfl) rfl rfl ⟨bc BK195 0,bc BK195 1,hx198_0,hx198_1,hx198_2⟩ (fun hHeld=>?_);refine with_tabW spec_CancelDue.tab8 spec_CancelDue.bits8 (fun HT_ HW_=>?_)
    generalize w74.drew=w76 at HO193 BK189 BK190 BK195 HB GG29 HQ77 hf29_0 hf29_1 hf29_2 hx198_0 hx198_1 hx198_2 hx29_0 hx29_1 hx29_2 hHeld ⊢
    refine pq 0 25 (bs 10 1) HT_ ?_
    refine pq 2 27 (bs 10 5) HT_ ?_
    refine pq 3 28 (bs 10 13) HT_ ?_
    refine pq 5 30 (bs 10 45) HT_ ?_
    refine tq 1 26 (bs 10 47) HT_ HW_ hHeld ?_
    refine tq 4 29 (bs 10 63) HT_ HW_ hHeld ?_
    refine pq 6 31 (bs 10 127) HT_ ?_
    refine tq 7 32 (bs 10 255) HT_ HW_ hHeld ?_
    refine pq 8 33 (bs 10 511) HT_ ?_
    refine last_ (i:=9) (N:=none) (bs 10 1023) rfl rfl (one_of HT_.out (by kernel_rfl)) (by decide) (fun K hK=>?_)
    refine skip_ (w1:=?_) (by rfl) rfl ?_ ?_
    rotate_left
    ·go_simp
     rfl
    refine hK.out _ _ ?_
    clear hK K
    refine done_ (done_of HT_.out (by kernel_rfl)) ?_
    have n0_:Aside0 (Kd.R k56 56 (((w76.setCell ⟨go29,(t197:Int).toNat * 3,none⟩ (.int .i64 ((rd_T56 t191 (ji24)).f0))).setCell ⟨go29,(t197:Int).toNat * 3 + 1,none⟩ (.int .i64 ((rd_T56 t191 (ji24)).f1))).setCell ⟨go29,(t197:Int).toNat * 3 + 2,none⟩ (.int .i64 ((rd_T56 t191 (ji24)).f2))) w.heap.size (fun _=>True) (.slice (some ⟨go29,0,none⟩) t191.length co67) y199):=⟨kr HQ77⟩
    have n1_:Aside0 ((((w76.setCell ⟨go29,(t197:Int).toNat * 3,none⟩ (.int .i64 ((rd_T56 t191 (ji24)).f0))).setCell ⟨go29,(t197:Int).toNat * 3 + 1,none⟩ (.int .i64 ((rd_T56 t191 (ji24)).f1))).setCell ⟨go29,(t197:Int).toNat * 3 + 2,none⟩ (.int .i64 ((rd_T56 t191 (ji24)).f2))).heap[gb189]? = some (.cells #[.slice A0_0 l0_0.length c0_0,.int .i64 a0_1] 28 (0,0))):=⟨by (with_reducible repeat (first|refine blk_drewN ?_ _|refine blk_drew ?_|refine blk_alloc ?_ _));refine blk_far ?_ (by have h_:=Kd.R_ne HO193.out BK189.out (by decide);intro e_;exact h_ (by rw [e_];rfl)) _;(with_reducible repeat (first|refine blk_drewN ?_ _|refine blk_drew ?_|refine blk_alloc ?_ _));refine blk_far ?_ (by have h_:=Kd.R_ne HO193.out BK189.out (by decide);intro e_;exact h_ (by rw [e_];rfl)) _;(with_reducible repeat (first|refine blk_drewN ?_ _|refine blk_drew ?_|refine blk_alloc ?_ _));refine blk_far ?_ (by have h_:=Kd.R_ne HO193.out BK189.out (by decide);intro e_;exact h_ (by rw [e_];rfl)) _;(with_reducible repeat (first|refine blk_drewN ?_ _|refine blk_drew ?_|refine blk_alloc ?_ _));exact BK189.out⟩
    have n2_:Aside0 ((((w76.setCell ⟨go29,(t197:Int).toNat * 3,none⟩ (.int .i64 ((rd_T56 t191 (ji24)).f0))).setCell ⟨go29,(t197:Int).toNat * 3 + 1,none⟩ (.int .i64 ((rd_T56 t191 (ji24)).f1))).setCell ⟨go29,(t197:Int).toNat * 3 + 2,none⟩ (.int .i64 ((rd_T56 t191 (ji24)).f2))).heap[gb190]? = some (.cells #[.slice none 0 0,.int .i64 0] 28 (0,0))):=⟨by (with_reducible repeat (first|refine blk_drewN ?_ _|refine blk_drew ?_|refine blk_alloc ?_ _));refine blk_far ?_ (by have h_:=Kd.R_ne HO193.out BK190.out (by decide);intro e_;exact h_ (by rw [e_];rfl)) _;(with_reducible repeat (first|refine blk_drewN ?_ _|refine blk_drew ?_|refine blk_alloc ?_ _));refine blk_far ?_ (by have h_:=Kd.R_ne HO193.out BK190.out (by decide);intro e_;exact h_ (by rw [e_];rfl)) _;(with_reducible repeat (first|refine blk_drewN ?_ _|refine blk_drew ?_|refine blk_alloc ?_ _));refine blk_far ?_ (by have h_:=Kd.R_ne HO193.out BK190.out (by decide);intro e_;exact h_ (by rw [e_];rfl)) _;(with_reducible repeat (first|refine blk_drewN ?_ _|refine blk_drew ?_|refine blk_alloc ?_ _));exact BK190.out⟩
    have n3_:Aside0 ((((w76.setCell ⟨go29,(t197:Int).toNat * 3,none⟩ (.int .i64 ((rd_T56 t191 (ji24)).f0))).setCell ⟨go29,(t197:Int).toNat * 3 + 1,none⟩ (.int .i64 ((rd_T56 t191 (ji24)).f1))).setCell ⟨go29,(t197:Int).toNat * 3 + 2,none⟩ (.int .i64 ((rd_T56 t191 (ji24)).f2))).heap[gb195]? = some (.cells #[.slice (some ⟨go29,0,none⟩) t191.length co67,.int .i64 t194] 28 (0,0))):=⟨by (with_reducible repeat (first|refine blk_drewN ?_ _|refine blk_drew ?_|refine blk_alloc ?_ _));refine blk_far ?_ (by have h_:=Kd.R_ne HO193.out BK195.out (by decide);intro e_;exact h_ (by rw [e_];rfl)) _;(with_reducible repeat (first|refine blk_drewN ?_ _|refine blk_drew ?_|refine blk_alloc ?_ _));refine blk_far ?_ (by have h_:=Kd.R_ne HO193.out BK195.out (by decide);intro e_;exact h_ (by rw [e_];rfl)) _;(with_reducible repeat (first|refine blk_drewN ?_ _|refine blk_drew ?_|refine blk_alloc ?_ _));refine blk_far ?_ (by have h_:=Kd.R_ne HO193.out BK195.out (by decide);intro e_;exact h_ (by rw [e_];rfl)) _;(with_reducible repeat (first|refine blk_drewN ?_ _|refine blk_drew ?_|refine blk_alloc ?_ _));exact BK195.out⟩
    have n4_:Aside0 (Below w.heap.size w (((w76.setCell ⟨go29,(t197:Int).toNat * 3,none⟩ (.int .i64 ((rd_T56 t191 (ji24)).f0))).setCell ⟨go29,(t197:Int).toNat * 3 + 1,none⟩ (.int .i64 ((rd_T56 t191 (ji24)).f1))).setCell ⟨go29,(t197:Int).toNat * 3 + 2,none⟩ (.int .i64 ((rd_T56 t191 (ji24)).f2)))):=⟨by repeat (first|(with_reducible first|exact HB.out|apply below_alloc|apply pw_below_drewN|apply below_drew1|refine below_set ?_ GB29.out|refine below_set ?_ GB29.out|refine below_set ?_ GB29.out|refine below_set ?_ GE189.out|refine below_set ?_ GE190.out|refine below_set ?_ GE195.out)|exact HB.out)⟩
    (try clear HO193)
    (try clear BK189)
    (try clear BK190)
    (try clear BK195)
    (try clear HB)
    generalize (((w76.setCell ⟨go29,(t197:Int).toNat * 3,none⟩ (.int .i64 ((rd_T56 t191 (ji24)).f0))).setCell ⟨go29,(t197:Int).toNat * 3 + 1,none⟩ (.int .i64 ((rd_T56 t191 (ji24)).f1))).setCell ⟨go29,(t197:Int).toNat * 3 + 2,none⟩ (.int .i64 ((rd_T56 t191 (ji24)).f2)))=w78 at n0_ n1_ n2_ n3_ n4_ ⊢
    have HO193:=n0_
    have BK189:=n1_
    have BK190:=n2_
    have BK195:=n3_
    have HB:=n4_
    clear n0_ n1_ n2_ n3_ n4_
    obtain ⟨hcz79_0,hcz79_1,hfz79_0,hfz79_1⟩:=ck2 BK195.out
    have q80:((ji24):Int)≤((t191.length:Int):Int):=od
    obtain ⟨i080,hi080,_,hsz80,_⟩:=info_parts info56
    have hcut80:=cut_to (P:=Try.prog) 26 56 .i64 Try.underlying26 hi080 (some ⟨go29,0,none⟩) t191.length co67 (ji24) od q80 (Kd.R_reads' HO193.out).2.1
    have hr80:=Kd.R_take (m:=((ji24):Int).toNat) HO193.out (by first|omega|(have e_:=(Kd.R_reads' HO193.out).1;omega))
    have hy80:y200.length=((ji24):Int).toNat:=(by rw [Ny200.out,List.length_take];first|omega|(have e_:=(Kd.R_reads' HO193.out).1;omega))
    rw [← Ny200.out] at hr80
    rw [← hy80] at hr80 hcut80
    clear hy80 hi080 hsz80 HO193
    have HO202:=Aside0.mk hr80
    clear hr80
    replace q80:=eq_true q80
    obtain ⟨hcz81_0,hcz81_1,hfz81_0,hfz81_1⟩:=ck2 BK190.out
    try go_wp2
    refine bodyPost_ret (results_ct rfl _ _ gb190 28 #[.slice (some ⟨go29,0,none⟩) y200.length co67,.int .i64 t194] (0,0) _ rfl (by (with_reducible repeat (first|refine blk_drewN ?_ _|refine blk_drew ?_|refine blk_alloc ?_ _));refine blk_put (cs:=#[.slice (some ⟨go29,0,none⟩) y200.length co67,.int .i64 0]) ?_ 1 _ rfl;(with_reducible repeat (first|refine blk_drewN ?_ _|refine blk_drew ?_|refine blk_alloc ?_ _));refine blk_put (cs:=#[.slice none 0 0,.int .i64 0]) ?_ 0 _ rfl;(with_reducible repeat (first|refine blk_drewN ?_ _|refine blk_drew ?_|refine blk_alloc ?_ _));refine blk_far ?_ NB190_195.out _;(with_reducible repeat (first|refine blk_drewN ?_ _|refine blk_drew ?_|refine blk_alloc ?_ _));exact BK190.out) Try.underlying28 rfl (by kernel_rfl)) rfl ?_
    exact ⟨_,by first|rfl|(simp [errW_none,errW_some] <;> rfl)|(simp only [← hji24];first|rfl|(simp [errW_none,errW_some] <;> rfl))|(simp [*,errW_none,errW_some] <;> rfl),by (with_reducible repeat (first|apply Kd.R_alloc|apply Kd.R_drewN|apply Kd.R_drew));exact Kd.R_mono (Kd.R_far (p:=⟨gb190,1,none⟩) (Kd.R_far (p:=⟨gb190,0,none⟩) (Kd.R_far (p:=⟨gb195,0,none⟩) (Kd.R_types (Kd.R_types HO202.out BK195.out (by decide)) BK190.out (by decide)) (fun _ hk=>hk.1.2) (.slice (some ⟨go29,0,none⟩) y200.length co67)) (fun _ hk=>hk.2) (.slice (some ⟨go29,0,none⟩) y200.length co67)) (fun _ hk=>hk.2) (.int .i64 t194)) (fun _ hk=>trivial),bl⟩
 ·replace c5:=Bool.eq_false_iff.mpr c5
  subst c5
  rw [if_neg nft] at H
  simp only [Option.some.injEq,Prod.mk.injEq] at H
  obtain ⟨rfl,rfl,rfl⟩:=H
  go_enter Try.func10,Try.ntmps10
  go_wp2_with (first|((with_reducible refine gate_dst (N:=2) rfl ?_);refine bx 2 #[.slice A0_0 l0_0.length c0_0,.int .i64 a0_1] 28 ?_;intro gb189 hg w82 hbox hb;have BK189:=Aside0.mk (hbox);have GW189:=Aside0.mk (bz hg:w.heap.size≤gb189);have GE189:=GW189;replace HB:=Aside0.mk (below_step bl hb);clear hb hbox hg)|((with_reducible refine gate_dst (N:=4) rfl ?_);refine bx 4 #[.slice none 0 0,.int .i64 0] 28 ?_;intro gb190 hg w83 hbox hb;have BK190:=Aside0.mk (hbox);have GW190:=Aside0.mk (bz hg:w.heap.size≤gb190);have GE190:=GW190;replace HB:=Aside0.mk (below_step bl hb);have NB189_190:=Aside0.mk (nl hg BK189:gb189≠gb190);have NB190_189:=Aside0.mk (nr hg BK189:gb190≠gb189);replace BK189:=Aside0.mk (blk_below (bk BK189) hb);clear hb hbox hg;have hnb84:=NB189_190.out;have hnc84:=NB190_189.out;obtain ⟨hcz85_0,hcz85_1,hfz85_0,hfz85_1⟩:=ck2 BK189.out)|((with_reducible refine gate_callee (f:=39) rfl ?_);refine gl (some 10) Try.func39 #[.agg #[.slice A0_0 l0_0.length c0_0,.int .i64 a0_1]] ?_;(with_reducible refine (spec_l03Copy.calls k _ _ l0_0 a0_1 t191 t194 _ ?side1 ?side2 A3.out).mono ?_);(case side1=>exact kc HR0_0);(case side2=>exact HC0_0.out);rintro e w86 ⟨v192,rfl,ho0,hb⟩;refine ⟨_,rfl,?_⟩;have HO193:=Aside0.mk (Kd.R_lower ho0 (below_size bl));replace BK189:=Aside0.mk (blk_below (bk BK189) hb);replace BK190:=Aside0.mk (blk_below (bk BK190) hb);replace HB:=Aside0.mk (below_step bl hb);(try clear hb);(try clear hb2);(try clear hk);(try clear hi);(try clear ho0))|((with_reducible refine gate_dst (N:=6) rfl ?_);refine bx 6 #[.slice none 0 0,.int .i64 0] 28 ?_;intro gb195 hg w87 hbox hb;replace HO193:=Aside0.mk (Kd.R_below (kr HO193) hb);have BK195:=Aside0.mk (hbox);have GW195:=Aside0.mk (bz hg:w.heap.size≤gb195);have GE195:=GW195;replace HB:=Aside0.mk (below_step bl hb);have NB189_195:=Aside0.mk (nl hg BK189:gb189≠gb195);have NB195_189:=Aside0.mk (nr hg BK189:gb195≠gb189);replace BK189:=Aside0.mk (blk_below (bk BK189) hb);have NB190_195:=Aside0.mk (nl hg BK190:gb190≠gb195);have NB195_190:=Aside0.mk (nr hg BK190:gb195≠gb190);replace BK190:=Aside0.mk (blk_below (bk BK190) hb);clear hb hbox hg;obtain ⟨Ao88,co88,eo88⟩:=Kd.R_slice HO193.out;subst eo88;have hnb89:=NB195_189.out;have hnc89:=NB189_195.out;have hnb90:=NB195_190.out;have hnc90:=NB190_195.out;obtain ⟨hcz91_0,hcz91_1,hfz91_0,hfz91_1⟩:=ck2 BK195.out;obtain ⟨hcz92_0,hcz92_1,hfz92_0,hfz92_1⟩:=ck2 BK189.out)|((with_reducible refine gate_callee (f:=34) rfl ?_);refine gl (some 12) Try.func34 #[.agg #[.slice A0_0 l0_0.length c0_0,.int .i64 a0_1]] ?_;(with_reducible refine (spec_HeapOk.calls k _ _ l0_0 a0_1 false _ ?side1 ?side2 A4.out).mono ?_);(case side1=>exact Kd.C_below HR0_0.out bl);(case side2=>exact HC0_0.out);rintro e w93 ⟨rfl,hb⟩;refine ⟨_,rfl,?_⟩;replace HO193:=Aside0.mk (Kd.R_below (by (with_reducible repeat (first|apply Kd.R_alloc|apply Kd.R_drewN|apply Kd.R_drew));exact (Kd.R_mono (Kd.R_far (p:=⟨gb195,1,none⟩) (Kd.R_far (p:=⟨gb195,0,none⟩) (Kd.R_types HO193.out BK195.out (by decide)) (fun _ hk=>hk.2) (.slice Ao88 t191.length co88)) (fun _ hk=>hk.2) (.int .i64 t194)) (fun _ h_=>h_.1))) hb);replace BK189:=Aside0.mk (blk_below (g:=gb189) (o:=.cells #[.slice A0_0 l0_0.length c0_0,.int .i64 a0_1] 28 (0,0)) (bf BK189) hb);replace BK190:=Aside0.mk (blk_below (g:=gb190) (o:=.cells #[.slice none 0 0,.int .i64 0] 28 (0,0)) (bf BK190) hb);replace BK195:=Aside0.mk (blk_below (g:=gb195) (o:=.cells #[.slice Ao88 t191.length co88,.int .i64 t194] 28 (0,0)) (by (with_reducible repeat (first|refine blk_drewN ?_ _|refine blk_drew ?_|refine blk_alloc ?_ _));refine blk_put (cs:=#[.slice Ao88 t191.length co88,.int .i64 0]) ?_ 1 _ rfl;(with_reducible repeat (first|refine blk_drewN ?_ _|refine blk_drew ?_|refine blk_alloc ?_ _));refine blk_put (cs:=#[.slice none 0 0,.int .i64 0]) ?_ 0 _ rfl;(with_reducible repeat (first|refine blk_drewN ?_ _|refine blk_drew ?_|refine blk_alloc ?_ _));exact BK195.out) hb);replace HB:=Aside0.mk (below_step bl hb);(try clear hb);(try clear hb2);(try clear hk);(try clear hi);obtain ⟨hcz94_0,hcz94_1,hfz94_0,hfz94_1⟩:=ck2 BK195.out;obtain ⟨hcz95_0,hcz95_1,hfz95_0,hfz95_1⟩:=ck2 BK190.out))
  refine bodyPost_ret (results_ct rfl _ _ gb190 28 #[.slice Ao88 t191.length co88,.int .i64 t194] (0,0) _ rfl (by (with_reducible repeat (first|refine blk_drewN ?_ _|refine blk_drew ?_|refine blk_alloc ?_ _));refine blk_put (cs:=#[.slice Ao88 t191.length co88,.int .i64 0]) ?_ 1 _ rfl;(with_reducible repeat (first|refine blk_drewN ?_ _|refine blk_drew ?_|refine blk_alloc ?_ _));refine blk_put (cs:=#[.slice none 0 0,.int .i64 0]) ?_ 0 _ rfl;(with_reducible repeat (first|refine blk_drewN ?_ _|refine blk_drew ?_|refine blk_alloc ?_ _));exact BK190.out) Try.underlying28 rfl (by kernel_rfl)) rfl ?_
  exact ⟨_,er,by (with_reducible repeat (first|apply Kd.R_alloc|apply Kd.R_drewN|apply Kd.R_drew));exact Kd.R_mono (Kd.R_far (p:=⟨gb190,1,none⟩) (Kd.R_far (p:=⟨gb190,0,none⟩) (Kd.R_types HO193.out BK190.out (by decide)) (fun _ hk=>hk.2) (.slice Ao88 t191.length co88)) (fun _ hk=>hk.2) (.int .i64 t194)) (fun _ hk=>trivial),bl⟩

/-! ### spec_Schedule: function 16 -/
def spec_Schedule.j0:Nat→Int→Int→Bool→List (S56)→Int→Option ((List (S56)) × Int × Bool)
 | 0,_,_,_,_,_=>none
 | k + 1,x1,x2,x22,x206000,x206001=>if x22=true then ((spec_l03Copy.f k x206000 x206001).bind fun bt210=>(some (bt210.1,bt210.2,false))) else ((spec_CancelDue.f k x206000 x206001 x1).bind fun bt214=>(if bt214.1.length < 5864062014805 then ((some (bt214.1 ++ [(⟨x2,wrap64 (bt214.2.1 + 1),x1⟩:S56)]:List (S56))).bind fun y220=>((spec_l03Up.f k y220 (wrap64 ((y220.length:Int) - 1))).bind fun t223=>((spec_HeapOk.f k t223 (wrap64 (bt214.2.1 + 1))).bind fun t224=>(if t224=true then (some (t223,wrap64 (bt214.2.1 + 1),true)) else ((spec_l03Copy.f k x206000 x206001).bind fun bt225=>(some (bt225.1,bt225.2,false))))))) else (none)))
def spec_Schedule.f (k:Nat) (l0_0:List (S56)) (a0_1:Int) (a1:Int) (a2:Int):Option ((List (S56)) × Int × Bool):=(spec_HeapOk.f k l0_0 a0_1).bind fun t207=>(if t207=true then ((spec_TickOk.f a2).bind fun t208=>(if t208=true then ((spec_l01In.f a1 1 1000000000).bind fun t209=>(spec_Schedule.j0 k a1 a2 (!t209) l0_0 a0_1)) else (spec_Schedule.j0 k a1 a2 true l0_0 a0_1))) else (spec_Schedule.j0 k a1 a2 true l0_0 a0_1))
theorem spec_Schedule.mono_l:∀ k,(∀ y0 y1 y2 y3 y4,LeO (spec_Schedule.j0 k y0 y1 y2 y3 y4) (spec_Schedule.j0 (k + 1) y0 y1 y2 y3 y4))
 | 0=>fun _ _ _ _ _ r h=>by simp [spec_Schedule.j0] at h
 | k + 1=>by
  have ih0:=spec_Schedule.mono_l k
  ·intro y0 y1 y2 y3 y4
   unfold spec_Schedule.j0
   repeat' first
   | (with_reducible exact ih0 _ _ _ _ _)
   | (with_reducible exact spec_CancelDue.mono _ _ _ _)
   | (with_reducible exact spec_HeapOk.mono _ _ _)
   | (with_reducible exact spec_l03Copy.mono _ _ _)
   | (with_reducible exact spec_l03Up.mono _ _ _)
   | (with_reducible exact LeO.refl _)
   | (with_reducible exact LeO.none _)
   | (with_reducible refine LeO.ite ?_ ?_)
   | (with_reducible refine LeO.bind ?_ (fun _=>?_))
   | exact ih0 _ _ _ _ _
   | exact spec_CancelDue.mono _ _ _ _
   | exact spec_HeapOk.mono _ _ _
   | exact spec_l03Copy.mono _ _ _
   | exact spec_l03Up.mono _ _ _
   | exact LeO.none _
   | refine LeO.ite ?_ ?_
   | refine LeO.bind ?_ (fun _=>?_)
theorem spec_Schedule.mono:∀ a0 a1 a2 a3 k,LeO (spec_Schedule.f k a0 a1 a2 a3) (spec_Schedule.f (k + 1) a0 a1 a2 a3):=by
 intro a0 a1 a2 a3 k
 have ih0:=spec_Schedule.mono_l k
 unfold spec_Schedule.f
 repeat' first
   | (with_reducible exact ih0 _ _ _ _ _)
   | (with_reducible exact spec_CancelDue.mono _ _ _ _)
   | (with_reducible exact spec_HeapOk.mono _ _ _)
   | (with_reducible exact spec_l03Copy.mono _ _ _)
   | (with_reducible exact spec_l03Up.mono _ _ _)
   | (with_reducible exact LeO.refl _)
   | (with_reducible exact LeO.none _)
   | (with_reducible refine LeO.ite ?_ ?_)
   | (with_reducible refine LeO.bind ?_ (fun _=>?_))
   | exact ih0 _ _ _ _ _
   | exact spec_CancelDue.mono _ _ _ _
   | exact spec_HeapOk.mono _ _ _
   | exact spec_l03Copy.mono _ _ _
   | exact spec_l03Up.mono _ _ _
   | exact LeO.none _
   | refine LeO.ite ?_ ?_
   | refine LeO.bind ?_ (fun _=>?_)
set_option maxHeartbeats 8000000 in
set_option maxRecDepth 100000 in
theorem spec_Schedule.calls (k:Nat) (A0_0:Option Addr) (c0_0:Nat) (l0_0:List (S56)) (a0_1:Int) (a1:Int) (a2:Int) (r1:List (S56)) (r2:Int) (r3:Bool) (w:World) (hr0_0:Kd.C k56 w A0_0 l0_0.length l0_0) (hc0_0:l0_0.length≤c0_0) (h:spec_Schedule.f k l0_0 a0_1 a1 a2=some (r1,r2,r3)) :
  Calls Try.prog 16 #[.agg #[.slice A0_0 l0_0.length c0_0,.int .i64 a0_1],.int .i64 a1,.int .i64 a2] w fun e w'=>∃ v0_:Value,e = .returned (.tuple #[.agg #[v0_,.int .i64 r2],.bool r3])∧Kd.R k56 56 w' w.heap.size (fun _=>True) v0_ r1∧Below w.heap.size w w':=by
 have hu28:=Try.underlying28
 have hu56:=Try.underlying56
 have HR0_0:=Aside0.mk hr0_0
 have HC0_0:=Aside0.mk hc0_0
 clear hr0_0 hc0_0
 have HB:=Aside0.mk (Below.refl w.heap.size w)
 have H:((spec_HeapOk.f k l0_0 a0_1).bind fun t207=>(if t207=true then ((spec_TickOk.f a2).bind fun t208=>(if t208=true then ((spec_l01In.f a1 1 1000000000).bind fun t209=>(spec_Schedule.j0 k a1 a2 (!t209) l0_0 a0_1)) else (spec_Schedule.j0 k a1 a2 true l0_0 a0_1))) else (spec_Schedule.j0 k a1 a2 true l0_0 a0_1)))=some (r1,r2,r3):=h
 clear h
 have HC4:=Aside0.mk H
 clear H
 go_enter Try.func16,Try.ntmps16
 go_upto_region 1 with (first|((with_reducible refine gate_dst (N:=3) rfl ?_);refine bx 3 #[.slice A0_0 l0_0.length c0_0,.int .i64 a0_1] 28 ?_;intro gb205 hg w5 hbox hb;have BK205:=Aside0.mk (hbox);have GW205:=Aside0.mk (bz hg:w.heap.size≤gb205);have GE205:=GW205;replace HB:=Aside0.mk (below_step bl hb);clear hb hbox hg)|((with_reducible refine gate_dst (N:=6) rfl ?_);refine bx 6 #[.slice none 0 0,.int .i64 0] 28 ?_;intro gb206 hg w6 hbox hb;have BK206:=Aside0.mk (hbox);have GW206:=Aside0.mk (bz hg:w.heap.size≤gb206);have GE206:=GW206;replace HB:=Aside0.mk (below_step bl hb);have NB205_206:=Aside0.mk (nl hg BK205:gb205≠gb206);have NB206_205:=Aside0.mk (nr hg BK205:gb206≠gb205);replace BK205:=Aside0.mk (blk_below (bk BK205) hb);clear hb hbox hg))
 (try simp only [Act.put,List.setIfInBounds_toArray,List.set_cons_zero,List.set_cons_succ])
 go_cut [22] (fun v22 wc=>∃ (kq:Nat) (x22_3:Bool),v22 = .bool x22_3∧Aside0 (spec_Schedule.j0 kq a1 a2 x22_3 l0_0 a0_1=some (r1,r2,r3))∧Aside0 (kq≤k)∧Aside0 (wc.heap[gb205]? = some (.cells #[(.slice A0_0 l0_0.length c0_0),.int .i64 a0_1] 28 (0,0)))∧Aside0 (wc.heap[gb206]? = some (.cells #[(.slice none 0 0),.int .i64 0] 28 (0,0)))∧Aside0 (Below w.heap.size w wc))
 case first =>
  have H:=HC4.out
  clear HC4
  replace H:=Option.bind_eq_some_iff.mp H
  obtain ⟨t207,A70,H⟩:=H
  have A7:=Aside0.mk A70
  clear A70
  by_cases c8:t207=true
  ·subst c8
   rw [if_pos rfl] at H
   replace H:=Option.bind_eq_some_iff.mp H
   obtain ⟨t208,A90,H⟩:=H
   have A9:=Aside0.mk A90
   clear A90
   by_cases c10:t208=true
   ·subst c10
    rw [if_pos rfl] at H
    replace H:=Option.bind_eq_some_iff.mp H
    obtain ⟨t209,A110,H⟩:=H
    have A11:=Aside0.mk A110
    clear A110
    have H':=Aside0.mk H
    clear H
    have hnb12:=NB205_206.out
    have hnc12:=NB206_205.out
    obtain ⟨hcz13_0,hcz13_1,hfz13_0,hfz13_1⟩:=ck2 BK205.out
    go_wp2_with (first|((with_reducible refine gate_callee (f:=34) rfl ?_);refine gl (some 11) Try.func34 #[.agg #[.slice A0_0 l0_0.length c0_0,.int .i64 a0_1]] ?_;(with_reducible refine (spec_HeapOk.calls k _ _ l0_0 a0_1 true _ ?side1 ?side2 A7.out).mono ?_);(case side1=>exact kc HR0_0);(case side2=>exact HC0_0.out);rintro e w14 ⟨rfl,hb⟩;refine ⟨_,rfl,?_⟩;replace BK205:=Aside0.mk (blk_below (bk BK205) hb);replace BK206:=Aside0.mk (blk_below (bk BK206) hb);replace HB:=Aside0.mk (below_step bl hb);(try clear hb);(try clear hb2);(try clear hk);(try clear hi))|(go_at_call 51;(with_reducible refine (spec_TickOk.calls a2 true _ A9.out).mono ?_);rintro e w' ⟨rfl,⟨nd,rfl⟩⟩)|(go_at_call 52;(with_reducible refine (spec_l01In.calls a1 1 1000000000 t209 _ A11.out).mono ?_);rintro e w' ⟨rfl,⟨nd,rfl⟩⟩))
    go_meet
    case rel=>exact ⟨_,(!t209),(by first|rfl|(simp;done)|(simp [*];done)),H',⟨by first|omega|exact Nat.le_refl _⟩,⟨bk BK205⟩,⟨bk BK206⟩,⟨bl⟩⟩
   ·replace c10:=Bool.eq_false_iff.mpr c10
    subst c10
    rw [if_neg nft] at H
    have H':=Aside0.mk H
    clear H
    have hnb15:=NB205_206.out
    have hnc15:=NB206_205.out
    obtain ⟨hcz16_0,hcz16_1,hfz16_0,hfz16_1⟩:=ck2 BK205.out
    go_wp2_with (first|((with_reducible refine gate_callee (f:=34) rfl ?_);refine gl (some 11) Try.func34 #[.agg #[.slice A0_0 l0_0.length c0_0,.int .i64 a0_1]] ?_;(with_reducible refine (spec_HeapOk.calls k _ _ l0_0 a0_1 true _ ?side1 ?side2 A7.out).mono ?_);(case side1=>exact kc HR0_0);(case side2=>exact HC0_0.out);rintro e w17 ⟨rfl,hb⟩;refine ⟨_,rfl,?_⟩;replace BK205:=Aside0.mk (blk_below (bk BK205) hb);replace BK206:=Aside0.mk (blk_below (bk BK206) hb);replace HB:=Aside0.mk (below_step bl hb);(try clear hb);(try clear hb2);(try clear hk);(try clear hi))|(go_at_call 51;(with_reducible refine (spec_TickOk.calls a2 false _ A9.out).mono ?_);rintro e w' ⟨rfl,⟨nd,rfl⟩⟩))
    go_meet
    case rel=>exact ⟨_,(true),(by first|rfl|(simp;done)|(simp [*];done)),H',⟨by first|omega|exact Nat.le_refl _⟩,⟨bk BK205⟩,⟨bk BK206⟩,⟨bl⟩⟩
  ·replace c8:=Bool.eq_false_iff.mpr c8
   subst c8
   rw [if_neg nft] at H
   have H':=Aside0.mk H
   clear H
   have hnb18:=NB205_206.out
   have hnc18:=NB206_205.out
   obtain ⟨hcz19_0,hcz19_1,hfz19_0,hfz19_1⟩:=ck2 BK205.out
   go_wp2_with (first|((with_reducible refine gate_callee (f:=34) rfl ?_);refine gl (some 11) Try.func34 #[.agg #[.slice A0_0 l0_0.length c0_0,.int .i64 a0_1]] ?_;(with_reducible refine (spec_HeapOk.calls k _ _ l0_0 a0_1 false _ ?side1 ?side2 A7.out).mono ?_);(case side1=>exact kc HR0_0);(case side2=>exact HC0_0.out);rintro e w20 ⟨rfl,hb⟩;refine ⟨_,rfl,?_⟩;replace BK205:=Aside0.mk (blk_below (bk BK205) hb);replace BK206:=Aside0.mk (blk_below (bk BK206) hb);replace HB:=Aside0.mk (below_step bl hb);(try clear hb);(try clear hb2);(try clear hk);(try clear hi)))
   go_meet
   case rel=>exact ⟨_,(true),(by first|rfl|(simp;done)|(simp [*];done)),H',⟨by first|omega|exact Nat.le_refl _⟩,⟨bk BK205⟩,⟨bk BK206⟩,⟨bl⟩⟩
 case rest =>
  clear HC4
  try clear c1
  try clear p2
  try clear c3
  try clear c8
  try clear c10
  try clear c12
  try clear c15
  try clear c16
  try clear c18
  try clear hcz13_0
  try clear hcz13_1
  try clear hcz16_0
  try clear hcz16_1
  try clear hcz19_0
  try clear hcz19_1
  try clear hfz13_0
  try clear hfz13_1
  try clear hfz16_0
  try clear hfz16_1
  try clear hfz19_0
  try clear hfz19_1
  obtain ⟨kq,x22_3,rfl,HA,HJ3,BK205,BK206,HB⟩:=hcut
  cases kq with
  | zero=>exact absurd HA.out (by simp [spec_Schedule.j0])
  | succ kj3 =>
   have H:=HA.out
   clear HA
   simp only [spec_Schedule.j0] at H
   by_cases c21:x22_3=true
   ·subst c21
    rw [if_pos rfl] at H
    replace H:=Option.bind_eq_some_iff.mp H
    obtain ⟨⟨t210,t213⟩,A220,H⟩:=H
    replace H:(some (t210,t213,false))=some (r1,r2,r3):=H
    have A22:=Aside0.mk A220
    clear A220
    simp only [Option.some.injEq,Prod.mk.injEq] at H
    obtain ⟨rfl,rfl,rfl⟩:=H
    have hnb23:=NB205_206.out
    have hnc23:=NB206_205.out
    obtain ⟨hcz24_0,hcz24_1,hfz24_0,hfz24_1⟩:=ck2 BK205.out
    go_wp2_with (first|((with_reducible refine gate_callee (f:=39) rfl ?_);refine gl (some 24) Try.func39 #[.agg #[.slice A0_0 l0_0.length c0_0,.int .i64 a0_1]] ?_;(with_reducible refine (spec_l03Copy.calls kj3 _ _ l0_0 a0_1 t210 t213 _ ?side1 ?side2 A22.out).mono ?_);(case side1=>exact kc HR0_0);(case side2=>exact HC0_0.out);rintro e w25 ⟨v211,rfl,ho0,hb⟩;refine ⟨_,rfl,?_⟩;have HO212:=Aside0.mk (Kd.R_lower ho0 (below_size bl));replace BK205:=Aside0.mk (blk_below (bk BK205) hb);replace BK206:=Aside0.mk (blk_below (bk BK206) hb);replace HB:=Aside0.mk (below_step bl hb);(try clear hb);(try clear hb2);(try clear hk);(try clear hi);(try clear ho0);obtain ⟨Ao26,co26,eo26⟩:=Kd.R_slice HO212.out;subst eo26;obtain ⟨hcz27_0,hcz27_1,hfz27_0,hfz27_1⟩:=ck2 BK206.out))
    refine bodyPost_ret (results_ct rfl _ _ gb206 28 #[.slice Ao26 t210.length co26,.int .i64 t213] (0,0) _ rfl (by (with_reducible repeat (first|refine blk_drewN ?_ _|refine blk_drew ?_|refine blk_alloc ?_ _));refine blk_put (cs:=#[.slice Ao26 t210.length co26,.int .i64 0]) ?_ 1 _ rfl;(with_reducible repeat (first|refine blk_drewN ?_ _|refine blk_drew ?_|refine blk_alloc ?_ _));refine blk_put (cs:=#[.slice none 0 0,.int .i64 0]) ?_ 0 _ rfl;(with_reducible repeat (first|refine blk_drewN ?_ _|refine blk_drew ?_|refine blk_alloc ?_ _));exact BK206.out) Try.underlying28 rfl (by kernel_rfl)) rfl ?_
    exact ⟨_,er,by (with_reducible repeat (first|apply Kd.R_alloc|apply Kd.R_drewN|apply Kd.R_drew));exact Kd.R_mono (Kd.R_far (p:=⟨gb206,1,none⟩) (Kd.R_far (p:=⟨gb206,0,none⟩) (Kd.R_types HO212.out BK206.out (by decide)) (fun _ hk=>hk.2) (.slice Ao26 t210.length co26)) (fun _ hk=>hk.2) (.int .i64 t213)) (fun _ hk=>trivial),bl⟩
   ·replace c21:=Bool.eq_false_iff.mpr c21
    subst c21
    rw [if_neg nft] at H
    replace H:=Option.bind_eq_some_iff.mp H
    obtain ⟨⟨t214,t217,t218⟩,A280,H⟩:=H
    replace H:(if t214.length < 5864062014805 then ((some (t214 ++ [(⟨a2,wrap64 (t217 + 1),a1⟩:S56)]:List (S56))).bind fun y220=>((spec_l03Up.f kj3 y220 (wrap64 ((y220.length:Int) - 1))).bind fun t223=>((spec_HeapOk.f kj3 t223 (wrap64 (t217 + 1))).bind fun t224=>(if t224=true then (some (t223,wrap64 (t217 + 1),true)) else ((spec_l03Copy.f kj3 l0_0 a0_1).bind fun bt225=>(some (bt225.1,bt225.2,false))))))) else (none))=some (r1,r2,r3):=H
    have A28:=Aside0.mk A280
    clear A280
    by_cases c29:t214.length < 5864062014805
    ·rw [if_pos c29] at H
     have LMc29:=Aside0.mk c29
     clear c29
     obtain ⟨y220,hy220⟩:∃ y_:List (S56),y_=(t214 ++ [(⟨a2,wrap64 (t217 + 1),a1⟩:S56)]):=⟨_,rfl⟩
     replace H:((spec_l03Up.f kj3 y220 (wrap64 ((y220.length:Int) - 1))).bind fun t223=>((spec_HeapOk.f kj3 t223 (wrap64 (t217 + 1))).bind fun t224=>(if t224=true then (some (t223,wrap64 (t217 + 1),true)) else ((spec_l03Copy.f kj3 l0_0 a0_1).bind fun bt225=>(some (bt225.1,bt225.2,false))))))=some (r1,r2,r3):=by first|(rw [hy220];with_reducible exact H)|(have H2_:=(Option.bind_some _ _).symm.trans H;rw [hy220];with_reducible exact H2_)|(have H2_:=(Option.bind_some _ _).symm.trans H;with_reducible exact H2_)|with_reducible exact H|(rw [hy220];exact H)|exact H
     have Ny220:=Aside0.mk hy220
     clear hy220
     replace H:=Option.bind_eq_some_iff.mp H
     obtain ⟨t223,A300,H⟩:=H
     have A30:=Aside0.mk A300
     clear A300
     replace H:=Option.bind_eq_some_iff.mp H
     obtain ⟨t224,A310,H⟩:=H
     have A31:=Aside0.mk A310
     clear A310
     by_cases c32:t224=true
     ·subst c32
      rw [if_pos rfl] at H
      simp only [Option.some.injEq,Prod.mk.injEq] at H
      obtain ⟨rfl,rfl,rfl⟩:=H
      have hnb33:=NB205_206.out
      have hnc33:=NB206_205.out
      obtain ⟨hcz34_0,hcz34_1,hfz34_0,hfz34_1⟩:=ck2 BK205.out
      go_wp2_with (first|((with_reducible refine gate_callee (f:=10) rfl ?_);refine gl (some 28) Try.func10 #[.agg #[.slice A0_0 l0_0.length c0_0,.int .i64 a0_1],.int .i64 a1] ?_;(with_reducible refine (spec_CancelDue.calls kj3 _ _ l0_0 a0_1 a1 t214 t217 t218 _ ?side1 ?side2 A28.out).mono ?_);(case side1=>exact kc HR0_0);(case side2=>exact HC0_0.out);rintro e w35 ⟨v215,rfl,ho0,hb⟩;refine ⟨_,rfl,?_⟩;have HO216:=Aside0.mk (Kd.R_lower ho0 (below_size bl));replace BK205:=Aside0.mk (blk_below (bk BK205) hb);replace BK206:=Aside0.mk (blk_below (bk BK206) hb);replace HB:=Aside0.mk (below_step bl hb);(try clear hb);(try clear hb2);(try clear hk);(try clear hi);(try clear ho0))|((with_reducible refine gate_dst (N:=8) rfl ?_);refine bx 8 #[.slice none 0 0,.int .i64 0] 28 ?_;intro gb219 hg w36 hbox hb;replace HO216:=Aside0.mk (Kd.R_below (kr HO216) hb);have BK219:=Aside0.mk (hbox);have GW219:=Aside0.mk (bz hg:w.heap.size≤gb219);have GE219:=GW219;replace HB:=Aside0.mk (below_step bl hb);have NB205_219:=Aside0.mk (nl hg BK205:gb205≠gb219);have NB219_205:=Aside0.mk (nr hg BK205:gb219≠gb205);replace BK205:=Aside0.mk (blk_below (bk BK205) hb);have NB206_219:=Aside0.mk (nl hg BK206:gb206≠gb219);have NB219_206:=Aside0.mk (nr hg BK206:gb219≠gb206);replace BK206:=Aside0.mk (blk_below (bk BK206) hb);clear hb hbox hg;obtain ⟨Ao37,co37,eo37⟩:=Kd.R_slice HO216.out;subst eo37;have hnb38:=NB219_205.out;have hnc38:=NB205_219.out;have hnb39:=NB219_206.out;have hnc39:=NB206_219.out;obtain ⟨hcz40_0,hcz40_1,hfz40_0,hfz40_1⟩:=ck2 BK219.out)|((with_reducible refine gate_store (t:=3) (p:=34) rfl ?_);refine sx 3 34 (((w36.setCell ⟨gb219,0,none⟩ (.slice Ao37 t214.length co37)).setCell ⟨gb219,1,none⟩ (.int .i64 t217)).setCell ⟨gb219,1,none⟩ (.int .i64 (wrap64 (t217 + 1)))) ?_;intro ws543 hw;have n0_:Aside0 (Kd.R k56 56 ws543 w.heap.size (fun _=>True) (.slice Ao37 t214.length co37) t214):=⟨(by rw [hw];exact (by (with_reducible repeat (first|apply Kd.R_alloc|apply Kd.R_drewN|apply Kd.R_drew));exact Kd.R_mono (Kd.R_far (p:=⟨gb219,1,none⟩) (Kd.R_far (p:=⟨gb219,1,none⟩) (Kd.R_far (p:=⟨gb219,0,none⟩) (Kd.R_types HO216.out BK219.out (by decide)) (fun _ hk=>hk.2) (.slice Ao37 t214.length co37)) (fun _ hk=>hk.2) (.int .i64 t217)) (fun _ hk=>hk.2) (.int .i64 (wrap64 (t217 + 1)))) (fun _ hk=>trivial)))⟩;have n1_:Aside0 (ws543.heap[gb205]? = some (.cells #[.slice A0_0 l0_0.length c0_0,.int .i64 a0_1] 28 (0,0))):=⟨(by rw [hw];exact (bf BK205))⟩;have n2_:Aside0 (ws543.heap[gb206]? = some (.cells #[.slice none 0 0,.int .i64 0] 28 (0,0))):=⟨(by rw [hw];exact (bf BK206))⟩;have n3_:Aside0 (ws543.heap[gb219]? = some (.cells #[.slice Ao37 t214.length co37,.int .i64 (wrap64 (t217 + 1))] 28 (0,0))):=⟨(by rw [hw];exact (by (with_reducible repeat (first|refine blk_drewN ?_ _|refine blk_drew ?_|refine blk_alloc ?_ _));refine blk_put (cs:=#[.slice Ao37 t214.length co37,.int .i64 t217]) ?_ 1 _ rfl;(with_reducible repeat (first|refine blk_drewN ?_ _|refine blk_drew ?_|refine blk_alloc ?_ _));refine blk_put (cs:=#[.slice Ao37 t214.length co37,.int .i64 0]) ?_ 1 _ rfl;(with_reducible repeat (first|refine blk_drewN ?_ _|refine blk_drew ?_|refine blk_alloc ?_ _));refine blk_put (cs:=#[.slice none 0 0,.int .i64 0]) ?_ 0 _ rfl;(with_reducible repeat (first|refine blk_drewN ?_ _|refine blk_drew ?_|refine blk_alloc ?_ _));exact BK219.out))⟩;have n4_:Aside0 (Below w.heap.size w ws543):=⟨(by rw [hw];exact bl)⟩;clear hw;clear HO216;clear BK205;clear BK206;clear BK219;clear HB;have HO216:=n0_;have BK205:=n1_;have BK206:=n2_;have BK219:=n3_;have HB:=n4_;clear n0_ n1_ n2_ n3_ n4_;obtain ⟨ic0_542,ic1_542,if0_542,if1_542⟩:=ck2 BK219.out)|((with_reducible refine gate_builtin (b:=.append) (xs:=#[.tmp 36,.tmp 42]) rfl ?_);at_builtin;refine Kd.R_append k56 (w0:=w) w.heap.size rfl (.tmp 36) (.tmp 42) 26 56 (.agg #[(.int .i64 0),(.int .i64 0),(.int .i64 0)]) 24 rfl Try.underlying26 info56 rfl (by decide) (by omega) (.slice Ao37 t214.length co37) t214 (⟨a2,wrap64 (t217 + 1),a1⟩:S56) [.int .i64 a2,.int .i64 (wrap64 (t217 + 1)),.int .i64 a1] (fun _=>True) (fun _=>False) rfl (by first|(go_simp;done)|(go_simp;rfl)) ?aP (fun _ hk=>hk.elim) ?aF ?aO ?aB ?aS ?aL ?_;(case aP=>exact k56_mkM _ _ _ (⟨a2,wrap64 (t217 + 1),a1⟩:S56));(case aB=>exact bl);(case aF=>exact (fun _ _=>trivial));(case aO=>exact (by (with_reducible repeat (first|apply Kd.R_alloc|apply Kd.R_drewN|apply Kd.R_drew));exact Kd.R_mono HO216.out (fun _ hk=>trivial)));(case aS=>exact (below_size bl));(case aL=>have:=LMc29.out;omega);intro v221 w41 ho hb hg hat;rw [← Ny220.out] at ho;replace BK205:=Aside0.mk (blk_grown (g:=gb205) (o:=.cells #[.slice A0_0 l0_0.length c0_0,.int .i64 a0_1] 28 (0,0)) (bf BK205) hg (Kd.R_ne HO216.out BK205.out (by decide)));replace BK206:=Aside0.mk (blk_grown (g:=gb206) (o:=.cells #[.slice none 0 0,.int .i64 0] 28 (0,0)) (bf BK206) hg (Kd.R_ne HO216.out BK206.out (by decide)));replace BK219:=Aside0.mk (blk_grown (g:=gb219) (o:=.cells #[.slice Ao37 t214.length co37,.int .i64 (wrap64 (t217 + 1))] 28 (0,0)) (by (with_reducible repeat (first|refine blk_drewN ?_ _|refine blk_drew ?_|refine blk_alloc ?_ _));exact BK219.out) hg (Kd.R_ne HO216.out BK219.out (by decide)));replace HB:=Aside0.mk (hb);have HO222:=Aside0.mk (ho);clear HO216;clear ho hb hg hat;obtain ⟨Ao42,co42,eo42⟩:=Kd.R_slice HO222.out;subst eo42;obtain ⟨hcz43_0,hcz43_1,hfz43_0,hfz43_1⟩:=ck2 BK219.out)|((with_reducible refine gate_store (t:=26) (p:=44) rfl ?_);refine sx 26 44 (w41.setCell ⟨gb219,0,none⟩ (.slice Ao42 y220.length co42)) ?_;intro w44 hw;have n0_:Aside0 (Kd.R k56 56 w44 w.heap.size (fun _=>True) (.slice Ao42 y220.length co42) y220):=⟨(by rw [hw];exact (by (with_reducible repeat (first|apply Kd.R_alloc|apply Kd.R_drewN|apply Kd.R_drew));exact Kd.R_mono (Kd.R_far (p:=⟨gb219,0,none⟩) (Kd.R_types HO222.out BK219.out (by decide)) (fun _ hk=>hk.2) (.slice Ao42 y220.length co42)) (fun _ hk=>trivial)))⟩;have n1_:Aside0 (w44.heap[gb205]? = some (.cells #[.slice A0_0 l0_0.length c0_0,.int .i64 a0_1] 28 (0,0))):=⟨(by rw [hw];exact (bf BK205))⟩;have n2_:Aside0 (w44.heap[gb206]? = some (.cells #[.slice none 0 0,.int .i64 0] 28 (0,0))):=⟨(by rw [hw];exact (bf BK206))⟩;have n3_:Aside0 (w44.heap[gb219]? = some (.cells #[.slice Ao42 y220.length co42,.int .i64 (wrap64 (t217 + 1))] 28 (0,0))):=⟨(by rw [hw];exact (by (with_reducible repeat (first|refine blk_drewN ?_ _|refine blk_drew ?_|refine blk_alloc ?_ _));refine blk_put (cs:=#[.slice Ao37 t214.length co37,.int .i64 (wrap64 (t217 + 1))]) ?_ 0 _ rfl;(with_reducible repeat (first|refine blk_drewN ?_ _|refine blk_drew ?_|refine blk_alloc ?_ _));exact BK219.out))⟩;have n4_:Aside0 (Below w.heap.size w w44):=⟨(by rw [hw];exact bl)⟩;clear hw;clear HO222;clear BK205;clear BK206;clear BK219;clear HB;have HO222:=n0_;have BK205:=n1_;have BK206:=n2_;have BK219:=n3_;have HB:=n4_;clear n0_ n1_ n2_ n3_ n4_;obtain ⟨hcz45_0,hcz45_1,hfz45_0,hfz45_1⟩:=ck2 BK219.out)|((with_reducible refine gate_callee (f:=41) rfl ?_);refine gl (some 51) Try.func41 #[.slice Ao42 y220.length co42,.int .i64 (wrap64 ((y220.length:Int) - 1))] ?_;(with_reducible refine (spec_l03Up.calls kj3 (fun k_=>some k_=(.slice Ao42 y220.length co42:Value).ownBlock) (.slice Ao42 y220.length co42) y220 (wrap64 ((y220.length:Int) - 1)) t223 w _ ?side1 ?side2 A30.out).mono ?_);(case side1=>repeat (first|(with_reducible first|exact HB.out|apply below_alloc|apply pw_below_drewN|apply below_drew1|refine below_set ?_ GE205.out|refine below_set ?_ GE206.out|refine below_set ?_ GE219.out)|exact HB.out));(case side2=>exact Kd.R_tight rfl HO222.out);rintro e w46 ⟨rfl,hy0,hb,hkp⟩;refine ⟨_,rfl,?_⟩;replace BK205:=Aside0.mk (blk_kept (bk BK205) hkp (fun hs_=>(fun e_=>(Kd.R_ne HO222.out BK205.out (by decide)) e_) hs_));replace BK206:=Aside0.mk (blk_kept (bk BK206) hkp (fun hs_=>(fun e_=>(Kd.R_ne HO222.out BK206.out (by decide)) e_) hs_));replace BK219:=Aside0.mk (blk_kept (bk BK219) hkp (fun hs_=>(fun e_=>(Kd.R_ne HO222.out BK219.out (by decide)) e_) hs_));replace HO222:=Aside0.mk (Kd.R_reok rfl hy0 (fun k_ e_=>HO222.out.1 k_ e_));replace HB:=Aside0.mk (hb);(try clear hb);(try clear hkp);(try clear hy0);obtain ⟨hcz47_0,hcz47_1,hfz47_0,hfz47_1⟩:=ck2 BK219.out)|((with_reducible refine gate_callee (f:=34) rfl ?_);refine goesL_ (some 53) rfl rfl Try.func34 (by kernel_rfl) rfl #[.agg #[.slice Ao42 t223.length co42,.int .i64 (wrap64 (t217 + 1))]] rfl (by (try simp only [List.map_toArray,List.map_cons,List.map_nil]);first|done|(rw [show t223.length=y220.length from (Kd.R_reads' HO222.out).1.symm] <;> rfl)|rfl|(simp only [List.length_drop,List.length_take];rfl)) ?_;(with_reducible refine (spec_HeapOk.calls kj3 _ _ t223 (wrap64 (t217 + 1)) true _ ?side1 ?side2 A31.out).mono ?_);(case side1=>repeat (first|exact (Kd.R_reads' HO222.out).2.2|(with_reducible refine Kd.C_alloc ?_ _)|(with_reducible refine Kd.C_drewN ?_ _)|(with_reducible refine Kd.C_drew ?_)));(case side2=>rw [show t223.length=y220.length from (Kd.R_reads' HO222.out).1.symm];exact (Kd.R_reads' HO222.out).2.1);rintro e w48 ⟨rfl,hb⟩;refine ⟨_,rfl,?_⟩;replace HO222:=Aside0.mk (Kd.R_below (kr HO222) hb);replace BK205:=Aside0.mk (blk_below (bk BK205) hb);replace BK206:=Aside0.mk (blk_below (bk BK206) hb);replace BK219:=Aside0.mk (blk_below (bk BK219) hb);replace HB:=Aside0.mk (below_step bl hb);(try clear hb);(try clear hb2);(try clear hk);(try clear hi);obtain ⟨hcz49_0,hcz49_1,hfz49_0,hfz49_1⟩:=ck2 BK219.out;obtain ⟨hcz50_0,hcz50_1,hfz50_0,hfz50_1⟩:=ck2 BK206.out))
      refine bodyPost_ret (results_ct rfl _ _ gb206 28 #[.slice Ao42 y220.length co42,.int .i64 (wrap64 (t217 + 1))] (0,0) _ rfl (by (with_reducible repeat (first|refine blk_drewN ?_ _|refine blk_drew ?_|refine blk_alloc ?_ _));refine blk_put (cs:=#[.slice Ao42 y220.length co42,.int .i64 0]) ?_ 1 _ rfl;(with_reducible repeat (first|refine blk_drewN ?_ _|refine blk_drew ?_|refine blk_alloc ?_ _));refine blk_put (cs:=#[.slice none 0 0,.int .i64 0]) ?_ 0 _ rfl;(with_reducible repeat (first|refine blk_drewN ?_ _|refine blk_drew ?_|refine blk_alloc ?_ _));exact BK206.out) Try.underlying28 rfl (by kernel_rfl)) rfl ?_
      exact ⟨_,er,by (with_reducible repeat (first|apply Kd.R_alloc|apply Kd.R_drewN|apply Kd.R_drew));exact Kd.R_mono (Kd.R_far (p:=⟨gb206,1,none⟩) (Kd.R_far (p:=⟨gb206,0,none⟩) (Kd.R_types HO222.out BK206.out (by decide)) (fun _ hk=>hk.2) (.slice Ao42 y220.length co42)) (fun _ hk=>hk.2) (.int .i64 (wrap64 (t217 + 1)))) (fun _ hk=>trivial),bl⟩
     ·replace c32:=Bool.eq_false_iff.mpr c32
      subst c32
      rw [if_neg nft] at H
      replace H:=Option.bind_eq_some_iff.mp H
      obtain ⟨⟨t225,t228⟩,A510,H⟩:=H
      replace H:(some (t225,t228,false))=some (r1,r2,r3):=H
      have A51:=Aside0.mk A510
      clear A510
      simp only [Option.some.injEq,Prod.mk.injEq] at H
      obtain ⟨rfl,rfl,rfl⟩:=H
      have hnb52:=NB205_206.out
      have hnc52:=NB206_205.out
      obtain ⟨hcz53_0,hcz53_1,hfz53_0,hfz53_1⟩:=ck2 BK205.out
      go_wp2_with (first|((with_reducible refine gate_callee (f:=10) rfl ?_);refine gl (some 28) Try.func10 #[.agg #[.slice A0_0 l0_0.length c0_0,.int .i64 a0_1],.int .i64 a1] ?_;(with_reducible refine (spec_CancelDue.calls kj3 _ _ l0_0 a0_1 a1 t214 t217 t218 _ ?side1 ?side2 A28.out).mono ?_);(case side1=>exact kc HR0_0);(case side2=>exact HC0_0.out);rintro e w54 ⟨v215,rfl,ho0,hb⟩;refine ⟨_,rfl,?_⟩;have HO216:=Aside0.mk (Kd.R_lower ho0 (below_size bl));replace BK205:=Aside0.mk (blk_below (bk BK205) hb);replace BK206:=Aside0.mk (blk_below (bk BK206) hb);replace HB:=Aside0.mk (below_step bl hb);(try clear hb);(try clear hb2);(try clear hk);(try clear hi);(try clear ho0))|((with_reducible refine gate_dst (N:=8) rfl ?_);refine bx 8 #[.slice none 0 0,.int .i64 0] 28 ?_;intro gb219 hg w55 hbox hb;replace HO216:=Aside0.mk (Kd.R_below (kr HO216) hb);have BK219:=Aside0.mk (hbox);have GW219:=Aside0.mk (bz hg:w.heap.size≤gb219);have GE219:=GW219;replace HB:=Aside0.mk (below_step bl hb);have NB205_219:=Aside0.mk (nl hg BK205:gb205≠gb219);have NB219_205:=Aside0.mk (nr hg BK205:gb219≠gb205);replace BK205:=Aside0.mk (blk_below (bk BK205) hb);have NB206_219:=Aside0.mk (nl hg BK206:gb206≠gb219);have NB219_206:=Aside0.mk (nr hg BK206:gb219≠gb206);replace BK206:=Aside0.mk (blk_below (bk BK206) hb);clear hb hbox hg;obtain ⟨Ao56,co56,eo56⟩:=Kd.R_slice HO216.out;subst eo56;have hnb57:=NB219_205.out;have hnc57:=NB205_219.out;have hnb58:=NB219_206.out;have hnc58:=NB206_219.out;obtain ⟨hcz59_0,hcz59_1,hfz59_0,hfz59_1⟩:=ck2 BK219.out)|((with_reducible refine gate_store (t:=3) (p:=34) rfl ?_);refine sx 3 34 (((w55.setCell ⟨gb219,0,none⟩ (.slice Ao56 t214.length co56)).setCell ⟨gb219,1,none⟩ (.int .i64 t217)).setCell ⟨gb219,1,none⟩ (.int .i64 (wrap64 (t217 + 1)))) ?_;intro ws559 hw;have n0_:Aside0 (Kd.R k56 56 ws559 w.heap.size (fun _=>True) (.slice Ao56 t214.length co56) t214):=⟨(by rw [hw];exact (by (with_reducible repeat (first|apply Kd.R_alloc|apply Kd.R_drewN|apply Kd.R_drew));exact Kd.R_mono (Kd.R_far (p:=⟨gb219,1,none⟩) (Kd.R_far (p:=⟨gb219,1,none⟩) (Kd.R_far (p:=⟨gb219,0,none⟩) (Kd.R_types HO216.out BK219.out (by decide)) (fun _ hk=>hk.2) (.slice Ao56 t214.length co56)) (fun _ hk=>hk.2) (.int .i64 t217)) (fun _ hk=>hk.2) (.int .i64 (wrap64 (t217 + 1)))) (fun _ hk=>trivial)))⟩;have n1_:Aside0 (ws559.heap[gb205]? = some (.cells #[.slice A0_0 l0_0.length c0_0,.int .i64 a0_1] 28 (0,0))):=⟨(by rw [hw];exact (bf BK205))⟩;have n2_:Aside0 (ws559.heap[gb206]? = some (.cells #[.slice none 0 0,.int .i64 0] 28 (0,0))):=⟨(by rw [hw];exact (bf BK206))⟩;have n3_:Aside0 (ws559.heap[gb219]? = some (.cells #[.slice Ao56 t214.length co56,.int .i64 (wrap64 (t217 + 1))] 28 (0,0))):=⟨(by rw [hw];exact (by (with_reducible repeat (first|refine blk_drewN ?_ _|refine blk_drew ?_|refine blk_alloc ?_ _));refine blk_put (cs:=#[.slice Ao56 t214.length co56,.int .i64 t217]) ?_ 1 _ rfl;(with_reducible repeat (first|refine blk_drewN ?_ _|refine blk_drew ?_|refine blk_alloc ?_ _));refine blk_put (cs:=#[.slice Ao56 t214.length co56,.int .i64 0]) ?_ 1 _ rfl;(with_reducible repeat (first|refine blk_drewN ?_ _|refine blk_drew ?_|refine blk_alloc ?_ _));refine blk_put (cs:=#[.slice none 0 0,.int .i64 0]) ?_ 0 _ rfl;(with_reducible repeat (first|refine blk_drewN ?_ _|refine blk_drew ?_|refine blk_alloc ?_ _));exact BK219.out))⟩;have n4_:Aside0 (Below w.heap.size w ws559):=⟨(by rw [hw];exact bl)⟩;clear hw;clear HO216;clear BK205;clear BK206;clear BK219;clear HB;have HO216:=n0_;have BK205:=n1_;have BK206:=n2_;have BK219:=n3_;have HB:=n4_;clear n0_ n1_ n2_ n3_ n4_;obtain ⟨ic0_558,ic1_558,if0_558,if1_558⟩:=ck2 BK219.out)|((with_reducible refine gate_builtin (b:=.append) (xs:=#[.tmp 36,.tmp 42]) rfl ?_);at_builtin;refine Kd.R_append k56 (w0:=w) w.heap.size rfl (.tmp 36) (.tmp 42) 26 56 (.agg #[(.int .i64 0),(.int .i64 0),(.int .i64 0)]) 24 rfl Try.underlying26 info56 rfl (by decide) (by omega) (.slice Ao56 t214.length co56) t214 (⟨a2,wrap64 (t217 + 1),a1⟩:S56) [.int .i64 a2,.int .i64 (wrap64 (t217 + 1)),.int .i64 a1] (fun _=>True) (fun _=>False) rfl (by first|(go_simp;done)|(go_simp;rfl)) ?aP (fun _ hk=>hk.elim) ?aF ?aO ?aB ?aS ?aL ?_;(case aP=>exact k56_mkM _ _ _ (⟨a2,wrap64 (t217 + 1),a1⟩:S56));(case aB=>exact bl);(case aF=>exact (fun _ _=>trivial));(case aO=>exact (by (with_reducible repeat (first|apply Kd.R_alloc|apply Kd.R_drewN|apply Kd.R_drew));exact Kd.R_mono HO216.out (fun _ hk=>trivial)));(case aS=>exact (below_size bl));(case aL=>have:=LMc29.out;omega);intro v221 w60 ho hb hg hat;rw [← Ny220.out] at ho;replace BK205:=Aside0.mk (blk_grown (g:=gb205) (o:=.cells #[.slice A0_0 l0_0.length c0_0,.int .i64 a0_1] 28 (0,0)) (bf BK205) hg (Kd.R_ne HO216.out BK205.out (by decide)));replace BK206:=Aside0.mk (blk_grown (g:=gb206) (o:=.cells #[.slice none 0 0,.int .i64 0] 28 (0,0)) (bf BK206) hg (Kd.R_ne HO216.out BK206.out (by decide)));replace BK219:=Aside0.mk (blk_grown (g:=gb219) (o:=.cells #[.slice Ao56 t214.length co56,.int .i64 (wrap64 (t217 + 1))] 28 (0,0)) (by (with_reducible repeat (first|refine blk_drewN ?_ _|refine blk_drew ?_|refine blk_alloc ?_ _));exact BK219.out) hg (Kd.R_ne HO216.out BK219.out (by decide)));replace HB:=Aside0.mk (hb);have HO222:=Aside0.mk (ho);clear HO216;clear ho hb hg hat;obtain ⟨Ao61,co61,eo61⟩:=Kd.R_slice HO222.out;subst eo61;obtain ⟨hcz62_0,hcz62_1,hfz62_0,hfz62_1⟩:=ck2 BK219.out)|((with_reducible refine gate_store (t:=26) (p:=44) rfl ?_);refine sx 26 44 (w60.setCell ⟨gb219,0,none⟩ (.slice Ao61 y220.length co61)) ?_;intro w63 hw;have n0_:Aside0 (Kd.R k56 56 w63 w.heap.size (fun _=>True) (.slice Ao61 y220.length co61) y220):=⟨(by rw [hw];exact (by (with_reducible repeat (first|apply Kd.R_alloc|apply Kd.R_drewN|apply Kd.R_drew));exact Kd.R_mono (Kd.R_far (p:=⟨gb219,0,none⟩) (Kd.R_types HO222.out BK219.out (by decide)) (fun _ hk=>hk.2) (.slice Ao61 y220.length co61)) (fun _ hk=>trivial)))⟩;have n1_:Aside0 (w63.heap[gb205]? = some (.cells #[.slice A0_0 l0_0.length c0_0,.int .i64 a0_1] 28 (0,0))):=⟨(by rw [hw];exact (bf BK205))⟩;have n2_:Aside0 (w63.heap[gb206]? = some (.cells #[.slice none 0 0,.int .i64 0] 28 (0,0))):=⟨(by rw [hw];exact (bf BK206))⟩;have n3_:Aside0 (w63.heap[gb219]? = some (.cells #[.slice Ao61 y220.length co61,.int .i64 (wrap64 (t217 + 1))] 28 (0,0))):=⟨(by rw [hw];exact (by (with_reducible repeat (first|refine blk_drewN ?_ _|refine blk_drew ?_|refine blk_alloc ?_ _));refine blk_put (cs:=#[.slice Ao56 t214.length co56,.int .i64 (wrap64 (t217 + 1))]) ?_ 0 _ rfl;(with_reducible repeat (first|refine blk_drewN ?_ _|refine blk_drew ?_|refine blk_alloc ?_ _));exact BK219.out))⟩;have n4_:Aside0 (Below w.heap.size w w63):=⟨(by rw [hw];exact bl)⟩;clear hw;clear HO222;clear BK205;clear BK206;clear BK219;clear HB;have HO222:=n0_;have BK205:=n1_;have BK206:=n2_;have BK219:=n3_;have HB:=n4_;clear n0_ n1_ n2_ n3_ n4_;obtain ⟨hcz64_0,hcz64_1,hfz64_0,hfz64_1⟩:=ck2 BK219.out)|((with_reducible refine gate_callee (f:=41) rfl ?_);refine gl (some 51) Try.func41 #[.slice Ao61 y220.length co61,.int .i64 (wrap64 ((y220.length:Int) - 1))] ?_;(with_reducible refine (spec_l03Up.calls kj3 (fun k_=>some k_=(.slice Ao61 y220.length co61:Value).ownBlock) (.slice Ao61 y220.length co61) y220 (wrap64 ((y220.length:Int) - 1)) t223 w _ ?side1 ?side2 A30.out).mono ?_);(case side1=>repeat (first|(with_reducible first|exact HB.out|apply below_alloc|apply pw_below_drewN|apply below_drew1|refine below_set ?_ GE205.out|refine below_set ?_ GE206.out|refine below_set ?_ GE219.out)|exact HB.out));(case side2=>exact Kd.R_tight rfl HO222.out);rintro e w65 ⟨rfl,hy0,hb,hkp⟩;refine ⟨_,rfl,?_⟩;replace BK205:=Aside0.mk (blk_kept (bk BK205) hkp (fun hs_=>(fun e_=>(Kd.R_ne HO222.out BK205.out (by decide)) e_) hs_));replace BK206:=Aside0.mk (blk_kept (bk BK206) hkp (fun hs_=>(fun e_=>(Kd.R_ne HO222.out BK206.out (by decide)) e_) hs_));replace BK219:=Aside0.mk (blk_kept (bk BK219) hkp (fun hs_=>(fun e_=>(Kd.R_ne HO222.out BK219.out (by decide)) e_) hs_));replace HO222:=Aside0.mk (Kd.R_reok rfl hy0 (fun k_ e_=>HO222.out.1 k_ e_));replace HB:=Aside0.mk (hb);(try clear hb);(try clear hkp);(try clear hy0);obtain ⟨hcz66_0,hcz66_1,hfz66_0,hfz66_1⟩:=ck2 BK219.out)|((with_reducible refine gate_callee (f:=34) rfl ?_);refine goesL_ (some 53) rfl rfl Try.func34 (by kernel_rfl) rfl #[.agg #[.slice Ao61 t223.length co61,.int .i64 (wrap64 (t217 + 1))]] rfl (by (try simp only [List.map_toArray,List.map_cons,List.map_nil]);first|done|(rw [show t223.length=y220.length from (Kd.R_reads' HO222.out).1.symm] <;> rfl)|rfl|(simp only [List.length_drop,List.length_take];rfl)) ?_;(with_reducible refine (spec_HeapOk.calls kj3 _ _ t223 (wrap64 (t217 + 1)) false _ ?side1 ?side2 A31.out).mono ?_);(case side1=>repeat (first|exact (Kd.R_reads' HO222.out).2.2|(with_reducible refine Kd.C_alloc ?_ _)|(with_reducible refine Kd.C_drewN ?_ _)|(with_reducible refine Kd.C_drew ?_)));(case side2=>rw [show t223.length=y220.length from (Kd.R_reads' HO222.out).1.symm];exact (Kd.R_reads' HO222.out).2.1);rintro e w67 ⟨rfl,hb⟩;refine ⟨_,rfl,?_⟩;replace HO222:=Aside0.mk (Kd.R_below (kr HO222) hb);replace BK205:=Aside0.mk (blk_below (bk BK205) hb);replace BK206:=Aside0.mk (blk_below (bk BK206) hb);replace BK219:=Aside0.mk (blk_below (bk BK219) hb);replace HB:=Aside0.mk (below_step bl hb);(try clear hb);(try clear hb2);(try clear hk);(try clear hi);obtain ⟨hcz68_0,hcz68_1,hfz68_0,hfz68_1⟩:=ck2 BK205.out)|((with_reducible refine gate_callee (f:=39) rfl ?_);refine gl (some 56) Try.func39 #[.agg #[.slice A0_0 l0_0.length c0_0,.int .i64 a0_1]] ?_;(with_reducible refine (spec_l03Copy.calls kj3 _ _ l0_0 a0_1 t225 t228 _ ?side1 ?side2 A51.out).mono ?_);(case side1=>exact kc HR0_0);(case side2=>exact HC0_0.out);rintro e w69 ⟨v226,rfl,ho0,hb⟩;refine ⟨_,rfl,?_⟩;have HO227:=Aside0.mk (Kd.R_lower (Kd.R_new' ho0 (Kd.R_lt (kr HO222))) (below_size bl));replace HO222:=Aside0.mk (Kd.R_elder' (kr HO222) (Kd.R_base ho0) hb);replace BK205:=Aside0.mk (blk_below (bk BK205) hb);replace BK206:=Aside0.mk (blk_below (bk BK206) hb);replace BK219:=Aside0.mk (blk_below (bk BK219) hb);replace HB:=Aside0.mk (below_step bl hb);(try clear hb);(try clear hb2);(try clear hk);(try clear hi);(try clear ho0);obtain ⟨Ao70,co70,eo70⟩:=Kd.R_slice HO227.out;subst eo70;obtain ⟨hcz71_0,hcz71_1,hfz71_0,hfz71_1⟩:=ck2 BK206.out))
      refine bodyPost_ret (results_ct rfl _ _ gb206 28 #[.slice Ao70 t225.length co70,.int .i64 t228] (0,0) _ rfl (by (with_reducible repeat (first|refine blk_drewN ?_ _|refine blk_drew ?_|refine blk_alloc ?_ _));refine blk_put (cs:=#[.slice Ao70 t225.length co70,.int .i64 0]) ?_ 1 _ rfl;(with_reducible repeat (first|refine blk_drewN ?_ _|refine blk_drew ?_|refine blk_alloc ?_ _));refine blk_put (cs:=#[.slice none 0 0,.int .i64 0]) ?_ 0 _ rfl;(with_reducible repeat (first|refine blk_drewN ?_ _|refine blk_drew ?_|refine blk_alloc ?_ _));exact BK206.out) Try.underlying28 rfl (by kernel_rfl)) rfl ?_
      exact ⟨_,er,by (with_reducible repeat (first|apply Kd.R_alloc|apply Kd.R_drewN|apply Kd.R_drew));exact Kd.R_mono (Kd.R_far (p:=⟨gb206,1,none⟩) (Kd.R_far (p:=⟨gb206,0,none⟩) (Kd.R_types HO227.out BK206.out (by decide)) (fun _ hk=>hk.2) (.slice Ao70 t225.length co70)) (fun _ hk=>hk.2) (.int .i64 t228)) (fun _ hk=>trivial),bl⟩
    ·rw [if_neg c29] at H
     exact absurd H (by simp)

/-! ### impl_Due_70: function 70 -/
def impl_Due_70.f (l0:List (S56)):Option ((List (S56))):=(some (([]:List (S56)):List (S56))).bind fun y229=>(if y229.length + l0.length < 5864062014805 then (some (y229 ++ l0)) else (none))
set_option maxHeartbeats 8000000 in
set_option maxRecDepth 100000 in
theorem impl_Due_70.calls (A0:Option Addr) (c0:Nat) (l0:List (S56)) (r:List (S56)) (w:World) (hr0:Kd.C k56 w A0 l0.length l0) (hc0:l0.length≤c0) (h:impl_Due_70.f l0=some r) :
  Calls Try.prog 70 #[.slice A0 l0.length c0] w fun e w'=>∃ v0_:Value,e = .returned (v0_)∧Kd.R k56 56 w' w.heap.size (fun _=>True) v0_ r∧Below w.heap.size w w':=by
 have HR0:=Aside0.mk hr0
 have HC0:=Aside0.mk hc0
 clear hr0 hc0
 have HB:=Aside0.mk (Below.refl w.heap.size w)
 have H:((some (([]:List (S56)):List (S56))).bind fun y229=>(if y229.length + l0.length < 5864062014805 then (some (y229 ++ l0)) else (none)))=some r:=h
 clear h
 obtain ⟨y229,hy229⟩:∃ y_:List (S56),y_=(([]:List (S56))):=⟨_,rfl⟩
 replace H:(if y229.length + l0.length < 5864062014805 then (some (y229 ++ l0)) else (none))=some r:=by first|(rw [hy229];with_reducible exact H)|(have H2_:=(Option.bind_some _ _).symm.trans H;rw [hy229];with_reducible exact H2_)|(have H2_:=(Option.bind_some _ _).symm.trans H;with_reducible exact H2_)|with_reducible exact H|(rw [hy229];exact H)|exact H
 have Ny229:=Aside0.mk hy229
 clear hy229
 by_cases c2:y229.length + l0.length < 5864062014805
 ·rw [if_pos c2] at H
  have LMc2:=Aside0.mk c2
  clear c2
  obtain ⟨y232,hy232⟩:∃ y_:List (S56),y_=(y229 ++ l0):=⟨_,rfl⟩
  replace H:(some y232)=some r:=by first|(rw [hy232];with_reducible exact H)|(have H2_:=(Option.bind_some _ _).symm.trans H;rw [hy232];with_reducible exact H2_)|(have H2_:=(Option.bind_some _ _).symm.trans H;with_reducible exact H2_)|with_reducible exact H|(rw [hy232];exact H)|exact H
  have Ny232:=Aside0.mk hy232
  clear hy232
  obtain rfl:=Option.some.inj H
  cases A0 with
  | none =>
   have hnil:∀ w:World,(Go.binOp .eql 26 (.slice none l0.length c0) (.slice none 0 0)).run Try.prog w = .ok (.bool true) w:=fun w=>Go.Lib.run_eql_slice_nil w 26 56 none _ _ 0 0 Try.underlying26
   have hl0:l0 = []:=by
    rcases Nat.eq_zero_or_pos l0.length with h0|h0
    ·exact List.eq_nil_of_length_eq_zero h0
    ·obtain ⟨ad,h1,_⟩:=HR0.out.2.2 h0
     cases h1
   have hy:y232 = []:=by rw [Ny232.out,Ny229.out,hl0];rfl
   clear hl0
   have HY:=Aside0.mk hy
   clear hy
   go_enter Try.func70,Try.ntmps70
   go_wp2
   go_ret
   exact ⟨_,rfl,by rw [HY.out];exact Kd.R_nil _ _ _ _ _,HB.out⟩
  | some ad =>
   have hnil:∀ w:World,(Go.binOp .eql 26 (.slice (some ad) l0.length c0) (.slice none 0 0)).run Try.prog w = .ok (.bool false) w:=fun w=>Go.Lib.run_eql_slice_nil w 26 56 (some ad) _ _ 0 0 Try.underlying26
   go_enter Try.func70,Try.ntmps70
   go_wp2_with (first|((with_reducible refine gate_dst (N:=5) rfl ?_);refine Kd.R_lit k56 _ 56 ?hg (N:=5) ?hd (xs:=([]:List (S56))) (inner:=[]) (ok:=fun _=>True) (okp:=fun _=>True) ?hr ?hp (fun _ hk=>hk) trivial (Below.refl _ _) (Nat.le_refl _) (by simp) ?_;(case hd=>rfl);(case hg=>rfl);(case hr=>first|(go_simp;done)|(go_simp;rfl));(case hp=>exact (Reps.none _ _));intro v230 w3 ho4 hb hg_ hnew_;clear hg_ hnew_;(first|rw [← Ny229.out] at ho4|(simp only [Int.reduceToNat] at ho4;rw [← Ny229.out] at ho4));have HO231:=Aside0.mk (Kd.R_lower ho4 (below_size bl));replace HB:=Aside0.mk (below_step bl hb);clear hb ho4)|((with_reducible refine gate_builtin (b:=.append) (xs:=#[.tmp 5,.tmp 6]) rfl ?_);at_builtin;refine Kd.R_append_rows k56 (w0:=w) w.heap.size rfl (.tmp 5) (.tmp 6) 26 56 (.agg #[(.int .i64 0),(.int .i64 0),(.int .i64 0)]) 24 rfl Try.underlying26 info56 rfl (by decide) (by omega) v230 y229 l0 _ _ _ (fun _=>True) (fun _=>False) rfl rfl ?aO ?aR (fun _ _ h=>h) (fun _ h=>h.elim) ?aF ?aB ?aS ?aL ?_;(case aR=>exact kc HR0);(case aB=>exact bl);(case aF=>exact (fun _ _=>trivial));(case aO=>exact (kr HO231));(case aS=>exact (below_size bl));(case aL=>have:=LMc2.out;omega);intro v233 w5 ho hb hg hat;rw [← Ny232.out] at ho;replace HB:=Aside0.mk (hb);have HO234:=Aside0.mk (ho);clear HO231;clear ho hb hg hat))
   go_ret
   exact ⟨_,er,kr HO234,bl⟩
 ·rw [if_neg c2] at H
  exact absurd H (by simp)

/-! ### impl_ownHeap: function 44 -/
def impl_ownHeap.f (l0_0:List (S56)) (a0_1:Int):Option ((List (S56)) × Int):=(impl_Due_70.f l0_0).bind fun t237=>(some (t237,a0_1))
set_option maxHeartbeats 8000000 in
set_option maxRecDepth 100000 in
theorem impl_ownHeap.calls (A0_0:Option Addr) (c0_0:Nat) (l0_0:List (S56)) (a0_1:Int) (r1:List (S56)) (r2:Int) (w:World) (hr0_0:Kd.C k56 w A0_0 l0_0.length l0_0) (hc0_0:l0_0.length≤c0_0) (h:impl_ownHeap.f l0_0 a0_1=some (r1,r2)) :
  Calls Try.prog 44 #[.agg #[.slice A0_0 l0_0.length c0_0,.int .i64 a0_1]] w fun e w'=>∃ v0_:Value,e = .returned (.agg #[v0_,.int .i64 r2])∧Kd.R k56 56 w' w.heap.size (fun _=>True) v0_ r1∧Below w.heap.size w w':=by
 have hu28:=Try.underlying28
 have HR0_0:=Aside0.mk hr0_0
 have HC0_0:=Aside0.mk hc0_0
 clear hr0_0 hc0_0
 have HB:=Aside0.mk (Below.refl w.heap.size w)
 have H:((impl_Due_70.f l0_0).bind fun t237=>(some (t237,a0_1)))=some (r1,r2):=h
 clear h
 replace H:=Option.bind_eq_some_iff.mp H
 obtain ⟨t237,A20,H⟩:=H
 have A2:=Aside0.mk A20
 clear A20
 simp only [Option.some.injEq,Prod.mk.injEq] at H
 obtain ⟨rfl,rfl⟩:=H
 go_enter Try.func44,Try.ntmps44
 go_wp2_with (first|((with_reducible refine gate_dst (N:=1) rfl ?_);refine bx 1 #[.slice A0_0 l0_0.length c0_0,.int .i64 a0_1] 28 ?_;intro gb235 hg w3 hbox hb;have BK235:=Aside0.mk (hbox);have GW235:=Aside0.mk (bz hg:w.heap.size≤gb235);have GE235:=GW235;replace HB:=Aside0.mk (below_step bl hb);clear hb hbox hg)|((with_reducible refine gate_dst (N:=2) rfl ?_);refine bx 2 #[.slice none 0 0,.int .i64 0] 28 ?_;intro gb236 hg w4 hbox hb;have BK236:=Aside0.mk (hbox);have GW236:=Aside0.mk (bz hg:w.heap.size≤gb236);have GE236:=GW236;replace HB:=Aside0.mk (below_step bl hb);have NB235_236:=Aside0.mk (nl hg BK235:gb235≠gb236);have NB236_235:=Aside0.mk (nr hg BK235:gb236≠gb235);replace BK235:=Aside0.mk (blk_below (bk BK235) hb);clear hb hbox hg;have hnb5:=NB235_236.out;have hnc5:=NB236_235.out;obtain ⟨hcz6_0,hcz6_1,hfz6_0,hfz6_1⟩:=ck2 BK235.out)|((with_reducible refine gate_callee (f:=70) rfl ?_);refine gl (some 5) Try.func70 #[.slice A0_0 l0_0.length c0_0] ?_;(with_reducible refine (impl_Due_70.calls _ _ l0_0 t237 _ ?side1 ?side2 A2.out).mono ?_);(case side1=>exact kc HR0_0);(case side2=>exact HC0_0.out);rintro e w7 ⟨v238,rfl,ho0,hb⟩;refine ⟨_,rfl,?_⟩;have HO239:=Aside0.mk (Kd.R_lower ho0 (below_size bl));replace BK235:=Aside0.mk (blk_below (bk BK235) hb);replace BK236:=Aside0.mk (blk_below (bk BK236) hb);replace HB:=Aside0.mk (below_step bl hb);(try clear hb);(try clear hb2);(try clear hk);(try clear hi);(try clear ho0);obtain ⟨Ao8,co8,eo8⟩:=Kd.R_slice HO239.out;subst eo8;obtain ⟨hcz9_0,hcz9_1,hfz9_0,hfz9_1⟩:=ck2 BK235.out;obtain ⟨hcz10_0,hcz10_1,hfz10_0,hfz10_1⟩:=ck2 BK236.out))
 refine bodyPost_ret (results_cell_row rfl _ _ gb236 28 #[.slice Ao8 t237.length co8,.int .i64 a0_1] (0,0) _ rfl (by (with_reducible repeat (first|refine blk_drewN ?_ _|refine blk_drew ?_|refine blk_alloc ?_ _));refine blk_put (cs:=#[.slice Ao8 t237.length co8,.int .i64 0]) ?_ 1 _ rfl;(with_reducible repeat (first|refine blk_drewN ?_ _|refine blk_drew ?_|refine blk_alloc ?_ _));refine blk_put (cs:=#[.slice none 0 0,.int .i64 0]) ?_ 0 _ rfl;(with_reducible repeat (first|refine blk_drewN ?_ _|refine blk_drew ?_|refine blk_alloc ?_ _));refine blk_far ?_ NB236_235.out _;(with_reducible repeat (first|refine blk_drewN ?_ _|refine blk_drew ?_|refine blk_alloc ?_ _));exact BK236.out) Try.underlying28 rfl (by kernel_rfl)) rfl ?_
 exact ⟨_,er,by (with_reducible repeat (first|apply Kd.R_alloc|apply Kd.R_drewN|apply Kd.R_drew));exact Kd.R_mono (Kd.R_far (p:=⟨gb236,1,none⟩) (Kd.R_far (p:=⟨gb236,0,none⟩) (Kd.R_far (p:=⟨gb235,0,none⟩) (Kd.R_types (Kd.R_types HO239.out BK235.out (by decide)) BK236.out (by decide)) (fun _ hk=>hk.1.2) (.slice Ao8 t237.length co8)) (fun _ hk=>hk.2) (.slice Ao8 t237.length co8)) (fun _ hk=>hk.2) (.int .i64 a0_1)) (fun _ hk=>trivial),bl⟩

end Go.Proofs.Ytdffkcbaijbhoaa.PFnExactSchedule
